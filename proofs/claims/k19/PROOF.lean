import PyProof.Rows.All
import Wide.All
import OpenK.AllK
import Wide.FinOn
import HandS.ForMost
import HandS.Star
import HandS.TupAny
import HandS.TupMul
import HandS.Zip
import HandS.Walk
import HandS.IsInst
import HandS.Deep
import HandS.WordsExc
import HandS.Style
import HandS.NoneIn
import HandS.Iter
import HandS.TupSets
import HandS.Conv
import HandS.FStr
import HandS.RaiseMore
import HandS.Text
import HandS.TupLe
import HandS.RevTup
import HandS.More
import KE.SortData
import KE.LtData
import HandS.Zip0
import KE.KUnpackStar
import HandS.Dict
import KE.GoesEnumKw
import HandS.DictComp
import HandS.DictTup
import HandS.GenBody
import HandS.GenYield
import HandS.GenCall
import HandS.GenList
import PySem.Challenge.RW_ownrights_k19_clashes_told
set_option Elab.async false
set_option linter.all false
set_option maxRecDepth 100000
namespace Ev
open PySem L2
/-- values as trees; a cell is a shared list that changes -/
inductive PV where
  | non | bl (b : Bool) | int (i : Int) | str (s : Str)
  | tup (xs : List PV) | lst (xs : List PV) | rol (xs : List PV)
  | cell (k : Nat) | dct (ks : List Key) (xs : List PV) | dtt (ks : List (List Key)) (xs : List PV) | obj (cn : Str) (ks : List Str) (xs : List PV)
mutual
def PV.data : PV → Option PyData
  | .non => some .none
  | .bl b => some (.bool b)
  | .int i => some (.int i)
  | .str s => some (.str s)
  | .tup xs => (PV.dataL xs).map .tuple
  | .lst xs => (PV.dataL xs).map .list
  | .rol _ => none
  | .cell _ => none
  | .dct _ _ => none
  | .dtt _ _ => none
  | .obj _ _ _ => none
def PV.dataL : List PV → Option (List PyData)
  | [] => some []
  | x :: xs => match x.data, PV.dataL xs with
    | some d, some ds => some (d :: ds)
    | _, _ => none
end
abbrev Cel := List PV
inductive Slot where
  | emp | val (v : PV) | own (v : PV)
abbrev En := List Slot
structure EX where
  cls : Nat
  args : List PV
inductive R (α : Type) where
  | ok (a : α) (st : Cel) | exc (e : EX) (st : Cel) | bad
def R.bind {α β : Type} : R α → (α → Cel → R β) → R β
  | .ok a st, f => f a st
  | .exc e st, _ => .exc e st
  | .bad, _ => .bad
@[simp] theorem R.bind_ok {α β : Type} (a : α) (st : Cel) (f : α → Cel → R β) : (R.ok a st).bind f = f a st := rfl
@[simp] theorem R.bind_exc {α β : Type} (e : EX) (st : Cel) (f : α → Cel → R β) : (R.exc e st : R α).bind f = .exc e st := rfl
@[simp] theorem R.bind_bad {α β : Type} (f : α → Cel → R β) : (R.bad : R α).bind f = .bad := rfl
/-- a callee's end: an exception is not carried yet -/
def R.noexc {α : Type} : R α → R α
  | .ok a st => .ok a st
  | _ => .bad
@[simp] theorem R.noexc_ok {α : Type} (a : α) (st : Cel) : (R.ok a st).noexc = .ok a st := rfl
@[simp] theorem R.noexc_bad {α : Type} : (R.bad : R α).noexc = .bad := rfl
def R.of {α : Type} (o : Option α) (st : Cel) : R α := match o with
  | some a => .ok a st
  | none => .bad
@[simp] theorem R.of_some {α : Type} (a : α) (st : Cel) : R.of (some a) st = .ok a st := rfl
@[simp] theorem R.of_none {α : Type} (st : Cel) : R.of (none : Option α) st = .bad := rfl
inductive BOp where | add | sub | mul | fdiv | mod | pow
inductive COp where | lt | le | gt | ge | eq | ne | in_ | nin | isN | notN
inductive Ty where | int | bool | str | tuple | list
mutual
inductive C where
  | var (i : Nat) | bor (i : Nat) | int (i : Int) | str (s : Str) | bl (b : Bool) | non
  | bin (op : BOp) (a b : C) | neg (a : C) | not (a : C) | cmp (op : COp) (a b : C) | and (a b : C) | or (a b : C) | ite (t a b : C)
  | tup (es : Cs) | lst (es : Cs)
  | call (f : Nat) (es : Cs)
  | len (a : C) | toInt (a : C) | tupleOf (a : C) | listOf (a : C) | isa (a : C) (t : Ty) | all (a : C) | indexOf (a b : C)
  | ix (a i : C) | sl (a : C) (lo hi : Cs)
  | comp (elt : C) (tg : List Nat) (it : C) (ifs : Cs) (own : List Nat)
  | rng1 (a : C) | rng2 (a b : C) | zip2 (a b : C)
  | repr (a : C) | dct (kvs : Cs) | dget (a k : C)
  | any (a : C) | str1 (a : C) | chain (o1 o2 : COp) (a b c : C) | gc (g : Nat) | kget (g : Nat) (k : C) | kin (neg : Bool) (g : Nat) (k : C)
  | comp2 (elt : C) (tg : List Nat) (it : C) (tg2 : List Nat) (it2 : C) (ifs : Cs) (own own2 : List Nat)
  | attr (cn : Str) (a : C) (x : Str) | meth (cn m : Str) (f : Nat) (a : C) (es : Cs) | make (f : Nat) (es : Cs) | callK (f : Nat) (ks : List Str) (pm : List Nat) (es : Cs)
  | zips (a b : C) | dkeys (a : C) | dgetT (a k : C) | glist (f : Nat) (es : Cs) | dcomp2 (k1 k2 v : C) (tg : List Nat) (it : C) (tg2 : List Nat) (it2 : C) (own own2 : List Nat)
  | isa2 (a : C) (t u : Ty) | cat (a b : C) | dgetD (a k : C) | revT (a : C)
  | enum (a : C) | join (a b : C) | fstr (es : Cs) | rev (a : C) | tupRng (a b : C) | sset (a : C) | sorted (a : C)
inductive Cs where
  | nil | cons (a : C) (r : Cs) | star (a : C) (r : Cs)
end
def szOk (n : Nat) : Bool := decide (n ≤ sizeLine)
def eqD (a b : PV) : Option Bool := match a.data, b.data with
  | some d, some e => if SeqAt.shaped d && SeqAt.shaped e then some (PyData.eqv d e) else none
  | _, _ => none
/-- a text beside a scalar -/
def scalE : PV → PV → Option Bool
  | .str s, .str t => some (decide (s = t))
  | .str _, .int _ => some false
  | .int _, .str _ => some false
  | .str _, .bl _ => some false
  | .bl _, .str _ => some false
  | .str _, .non => some false
  | .non, .str _ => some false
  | _, _ => none
def eqV (a b : PV) : Option Bool := match scalE a b with
  | some k => some k
  | none => eqD a b
/-- a text so many times -/
def repS (n : Nat) (x : Str) : Str := ⟨(List.replicate n x.cps).foldl (· ++ ·) #[]⟩
/-- a tuple of ints -/
def intsP : List PV → Option (List Int)
  | [] => some []
  | .int i :: r => (intsP r).map (i :: ·)
  | _ :: _ => none
def leI (ns ms : List Int) : Bool := Ob.lexAt (fun j => decide (ns.getD j 0 = ms.getD j 0)) (fun j => decide (ns.getD j 0 ≤ ms.getD j 0)) (decide (ns.length ≤ ms.length)) 0 (min ns.length ms.length)
def cmpT (f : List Int → List Int → Bool) (xs ys : List PV) : Option Bool := match intsP xs, intsP ys with
  | some a, some b => some (f a b)
  | _, _ => none
def isNoneD : PyData → Bool
  | .none => true
  | _ => false
/-- less, of alike data -/
def ltD (a b : PV) : Option Bool := match a.data, b.data with
  | some d, some e => if SeqAt.shaped d && SeqAt.shaped e && PySem.W.alike d e && !isNoneD d then some (PySem.W.dataLt d e) else none
  | _, _ => none
def signsP (s : Str) : List PV := s.cps.toList.map fun c => .str ⟨#[c]⟩
def binV : BOp → PV → PV → Option PV
  | .add, .int i, .int j => some (.int (i + j))
  | .add, .str x, .str y => if szOk (x.length + y.length) then some (.str (x ++ y)) else none
  | .add, .lst xs, .lst ys => if szOk (xs.length + ys.length) then some (.lst (xs ++ ys)) else none
  | .add, .tup xs, .tup ys => if szOk (xs.length + ys.length) then some (.tup (xs ++ ys)) else none
  | .sub, .int i, .int j => some (.int (i - j))
  | .mul, .int i, .int j => if (-(2 ^ 64) < i && i < 2 ^ 64) || (-(2 ^ 64) < j && j < 2 ^ 64) then some (.int (i * j)) else none
  | .mul, .lst xs, .int k => if -(2 ^ 63) ≤ k && k < 2 ^ 63 && szOk (xs.length * k.toNat) then some (.lst (List.replicate k.toNat xs).flatten) else none
  | .mul, .tup xs, .int k => if 1 ≤ k && k ≤ 1000 && decide (xs.length ≤ 1000) && !xs.isEmpty then some (.tup (List.replicate k.toNat xs).flatten) else none
  | .fdiv, .int i, .int j => if j ≠ 0 ∧ j.natAbs < 1073741824 then some (.int (i.fdiv j)) else none
  | .mod, .int i, .int j => if j ≠ 0 then some (.int (i.fmod j)) else none
  | .pow, .int i, .int j => if 0 ≤ j ∧ j ≤ 1000000 ∧ i.natAbs < 2 ^ 64 then some (.int (i ^ j.toNat)) else none
  | .add, .bl c, .int j => some (.int ((if c then 1 else 0) + j))
  | .mul, .str x, .int k => if 2 ≤ k && k ≤ 100000 && decide (x.length ≠ 0) && szOk (x.length * k.toNat) then some (.str (repS k.toNat x)) else none
  | _, _, _ => none
def PV.isNone : PV → Bool
  | .non => true
  | _ => false
/-- among data -/
def inL (d : PyData) (ds : List PyData) : Option Bool := if SeqAt.shaped d && SeqAt.shaped (.list ds) then some (ds.any fun z => PyData.eqv z d) else none
/-- flat things: what `in` over a tuple looks at -/
def flatP : PV → Option V
  | .non => some .non
  | .bl b => some (.bl b)
  | .int i => some (.int i)
  | .str x => some (.str x)
  | _ => none
def flatPs : List PV → Option (List V)
  | [] => some []
  | x :: xs => match flatP x, flatPs xs with
    | some v, some vs => some (v :: vs)
    | _, _ => none
def inV (a : PV) : PV → Option Bool
  | .lst xs => match a.data, PV.dataL xs with
    | some d, some ds => inL d ds
    | _, _ => none
  | .tup xs => match flatP a, flatPs xs with
    | some v, some vs => some (L2.inV v vs)
    | _, _ => none
  | .str z => match a with
    | .str x => (match x.cps.toList with
      | [c] => some (decide (c ∈ z.cps.toList))
      | _ => none)
    | _ => none
  | _ => none
def cmpV : COp → PV → PV → Option Bool
  | .lt, .int i, .int j => some (decide (i < j))
  | .le, .int i, .int j => some (decide (i ≤ j))
  | .gt, .int i, .int j => some (decide (j < i))
  | .ge, .int i, .int j => some (decide (j ≤ i))
  | .lt, .str x, .str y => some (decide (x.cps.toList < y.cps.toList))
  | .le, .str x, .str y => some (!decide (y.cps.toList < x.cps.toList))
  | .lt, .tup x, .tup y => (match cmpT HT.lexLt x y with
    | some k => some k
    | none => ltD (.tup x) (.tup y))
  | .le, .tup x, .tup y => cmpT leI x y
  | .eq, a, b => eqV a b
  | .ne, a, b => (eqV a b).map (!·)
  | .in_, a, b => inV a b
  | .nin, a, b => (inV a b).map (!·)
  | .isN, a, .non => some a.isNone
  | .notN, a, .non => some (!a.isNone)
  | _, _, _ => none
def kP : Key → PV
  | .inl i => .int i
  | .inr x => .str x
def keyP : PV → Option Key
  | .int i => some (.inl i)
  | .str x => some (.inr x)
  | _ => none
def pairsP : List PV → Option (List Key × List PV)
  | [] => some ([], [])
  | k :: v :: r => match keyP k, pairsP r with
    | some k', some q => some (k' :: q.1, v :: q.2)
    | _, _ => none
  | _ => none
/-- a dict's display: no key twice -/
def dctV (xs : List PV) : Option PV := match pairsP xs with
  | some q => if q.1.Nodup ∧ q.1.length ≤ 15 then some (.dct q.1 q.2) else none
  | none => none
def valP : List Key → List PV → Key → Option PV
  | k :: ks, t :: ts, x => if k = x then some t else valP ks ts x
  | _, _, _ => none
def dgetV : PV → PV → Option PV
  | .dct ks ts, k => match keyP k with
    | some k' => valP ks ts k'
    | none => none
  | _, _ => none
/-- repr of data -/
def reprV (a : PV) : Option PV := match a.data with
  | some d => if d.showable && !d.hasDict && decide (d.depth ≤ 60) && szOk d.shown.length then some (.str d.shown) else none
  | none => none
/-- the first place of an equal item -/
def indexD (d : PyData) : List PyData → Nat → Option Nat
  | [], _ => none
  | z :: zs, i => if PyData.eqv z d then some i else indexD d zs (i + 1)
def indexV (a b : PV) : Option PV := match a.data, b.data with
  | some (.list ds), some d => if SeqAt.shaped (.list ds) && SeqAt.shaped d then (indexD d ds 0).map fun j => .int (j : Nat) else none
  | _, _ => none
def itemsOf : PV → Option (List PV)
  | .lst xs => some xs
  | .tup xs => some xs
  | .rol xs => some xs
  | .dct ks _ => some (ks.map kP)
  | .str s => some (signsP s)
  | _ => none
def lenV : PV → Option PV
  | .lst xs => some (.int xs.length)
  | .tup xs => some (.int xs.length)
  | .rol xs => some (.int xs.length)
  | .str s => if szOk s.length then some (.int s.length) else none
  | _ => none
def atP (xs : List PV) (i : Int) : Option PV := atI xs i
/-- items and the cells' contents -/
def ixV (st : Cel) : PV → PV → Option PV
  | .lst xs, .int i => atP xs i
  | .tup xs, .int i => atP xs i
  | .rol xs, .int i => atP xs i
  | .cell k, .int i => match st[k]? with
    | some (.lst xs) => atP xs i
    | _ => none
  | .str z, .int i => if szOk z.length then (atI z.cps.toList i).map fun c => .str ⟨#[c]⟩ else none
  | _, _ => none
def cutP (xs : List PV) (lo hi : Option Int) : List PV := (xs.drop (HT.sIx xs.length 0 lo)).take (HT.sIx xs.length xs.length hi - HT.sIx xs.length 0 lo)
def slV (a : PV) (lo hi : Option Int) : Option PV := match a with
  | .lst xs => some (.lst (cutP xs lo hi))
  | .rol xs => some (.lst (cutP xs lo hi))
  | .tup xs => some (.tup (cutP xs lo hi))
  | .str z => if szOk z.length then some (.str (cutS z lo hi)) else none
  | _ => none
def allB : List PV → Option (List Bool)
  | [] => some []
  | .bl b :: r => (allB r).map (b :: ·)
  | _ :: _ => none
def isaV : PV → Ty → Option Bool
  | .non, _ => some false
  | .bl _, .int => some true
  | .bl _, .bool => some true
  | .bl _, _ => some false
  | .int _, .int => some true
  | .int _, _ => some false
  | .str _, .str => some true
  | .str _, _ => some false
  | .tup _, .tuple => some true
  | .tup _, _ => some false
  | .lst _, .list => some true
  | .lst _, _ => some false
  | _, _ => none
def set1 (ρ : En) (i : Nat) (v : PV) : En := ρ.set i (.val v)
/-- a target of names and of groups of names: 1000 + k stands ahead of a group of k -/
def nested (tg : List Nat) : Bool := decide (2 < tg.length) && tg.any fun i => decide (1000 ≤ i)
def flT (tg : List Nat) : List Nat := tg.filter fun i => decide (i < 1000)
/-- well grouped: within a group are names alone -/
def grpOk : Nat → List Nat → Bool
  | 0, is => is.isEmpty
  | _ + 1, [] => true
  | n + 1, i :: is => if i < 1000 then grpOk n is else decide (i - 1000 ≤ is.length) && (is.take (i - 1000)).all (fun j => decide (j < 1000)) && grpOk n (is.drop (i - 1000))
def tupL : PV → Option (List PV)
  | .tup ys => some ys
  | _ => none
def flatG : List Nat → List PV → Option (List PV)
  | [], [] => some []
  | i :: is, v :: vs => if i < 1000 then (flatG is vs).map (v :: ·) else match tupL v with
    | some ys => if ys.length = i - 1000 ∧ ys.length ≤ is.length then (flatG (is.drop (i - 1000)) vs).map (ys ++ ·) else none
    | none => none
  | _, _ => none
def assignG (is : List Nat) (v : PV) (ρ : En) : Option En := match v with
  | .tup xs => if grpOk is.length is then (flatG is xs).map fun ys => ((flT is).zip ys).foldl (fun ρ p => set1 ρ p.1 p.2) ρ else none
  | _ => none
/-- each name of a target is one of these -/
def ownOk (tg own : List Nat) : Bool := match tg with
  | [i] => own.contains i
  | is => if nested is then (flT is).all (own.contains ·) else is.all (own.contains ·)
/-- one name, or several for a tuple -/
def assignT (tg : List Nat) (v : PV) (ρ : En) : Option En := match tg with
  | [i] => some (set1 ρ i v)
  | is => if nested is then assignG is v ρ else match v with
    | .lst xs => if xs.length = is.length then some ((is.zip xs).foldl (fun ρ p => set1 ρ p.1 p.2) ρ) else none
    | .tup xs => if xs.length = is.length then some ((is.zip xs).foldl (fun ρ p => set1 ρ p.1 p.2) ρ) else none
    | _ => none
def wipeE (ρ : En) : List Nat → En
  | [] => ρ
  | v :: vs => (wipeE ρ vs).set v .emp
/-- a comprehension's turns: none may raise -/
def compL (f : PV → Cel → R (Option PV)) : List PV → Cel → R (List PV)
  | [], st => .ok [] st
  | x :: xs, st => match f x st with
    | .ok o st1 => (compL f xs st1).bind fun ys st2 => .ok (match o with
      | some y => y :: ys
      | none => ys) st2
    | _ => .bad
def rngP (lo hi : Int) : List PV := (List.range (hi - lo).toNat).map fun k => .int (lo + (k : Nat))
def rOk (i : Int) : Bool := -(2 ^ 62) ≤ i && i < 2 ^ 62
def blV : PV → Option Bool
  | .bl b => some b
  | _ => none
def negV : PV → Option PV
  | .int i => some (.int (-i))
  | _ => none
def notV : PV → Option PV
  | .bl b => some (.bl (!b))
  | _ => none
def toIntV : PV → Option PV
  | .int i => some (.int i)
  | .bl b => some (.int (if b then 1 else 0))
  | _ => none
def tupleV : PV → Option PV
  | .str s => if szOk s.length then some (.tup (signsP s)) else none
  | .lst xs => some (.tup xs)
  | .tup xs => some (.tup xs)
  | _ => none
def listV : PV → Option PV
  | .lst xs => some (.lst xs)
  | .tup xs => some (.lst xs)
  | _ => none
def allV : PV → Option PV
  | .lst xs => (allB xs).map fun bs => .bl (bs.all id)
  | _ => none
def anyV : PV → Option PV
  | .lst xs => (allB xs).map fun bs => .bl (bs.any id)
  | _ => none
def str1V : PV → Option PV
  | .int i => if i.natAbs.log2 < 1920 then some (.str (toString i)) else none
  | .str s => some (.str s)
  | _ => none
def strsP : List PV → Option (List Str)
  | [] => some []
  | .str s :: r => (strsP r).map (s :: ·)
  | _ :: _ => none
def joinV : PV → PV → Option PV
  | .str a, .lst xs => match strsP xs with
    | some ys => if (ys.map (·.length)).sum + ys.length * a.length ≤ 16777216 then some (.str (Txt.join a ys)) else none
    | none => none
  | .str a, .tup xs => match strsP xs with
    | some ys => if (ys.map (·.length)).sum + ys.length * a.length ≤ 16777216 then some (.str (Txt.join a ys)) else none
    | none => none
  | _, _ => none
/-- a part of an f-string behind the others -/
def fmtV (acc : Str) (x : PV) : Option Str := match str1V x with
  | some (.str y) => if szOk (acc ++ y).length then some (acc ++ y) else none
  | _ => none
def revV : PV → Option PV
  | .lst xs => some (.lst xs.reverse)
  | _ => none
/-- lists, one behind the other: a new one -/
def catV : PV → PV → Option PV
  | .lst xs, .lst ys => if szOk (xs.length + ys.length) then some (.lst (xs ++ ys)) else none
  | _, _ => none
def revTV : PV → Option PV
  | .tup xs => some (.tup xs.reverse)
  | _ => none
def isa2V (x : PV) (t u : Ty) : Option Bool := match isaV x t, isaV x u with
  | some a, some b => some (a || b)
  | _, _ => none
/-- d.get(k) -/
def dgetN : PV → PV → Option PV
  | .dct ks ts, k => match keyP k with
    | some k' => some ((valP ks ts k').getD .non)
    | none => none
  | _, _ => none
def tupRngV : PV → PV → Option PV
  | .int i, .int j => if rOk i && rOk j && szOk (j - i).toNat then some (.tup (rngP i j)) else none
  | _, _ => none
def enumP (n : Nat) : List PV → List PV
  | [] => []
  | x :: xs => .tup [.int (n : Nat), x] :: enumP (n + 1) xs
def enumV : PV → Option PV
  | .lst xs => some (.lst (enumP 0 xs))
  | .tup xs => some (.lst (enumP 0 xs))
  | _ => none
def rowsP : List PV → Option (List (List Int))
  | [] => some []
  | .tup xs :: r => match intsP xs, rowsP r with
    | some k, some ks => some (k :: ks)
    | _, _ => none
  | _ :: _ => none
/-- sorted, none twice -/
def insR (k : List Int) : List (List Int) → List (List Int)
  | [] => [k]
  | m :: r => if k = m then m :: r else if k < m then k :: m :: r else m :: insR k r
def ssetR (ks : List (List Int)) : List (List Int) := ks.foldr insR []
def ssetV : PV → Option PV
  | .lst xs => match rowsP xs with
    | some ks => if ks.length < 64 && ks.all (fun k => !k.isEmpty) then some (.lst ((ssetR ks).map fun k => .tup (k.map .int))) else none
    | none => none
  | _ => none
/-- sorted of alike data -/
def alikeB (ds : List PyData) : Bool := ds.all fun d => ds.all fun e => PySem.W.alike d e
def sortB (ds : List PyData) : Bool := (ds.all fun d => match d with
    | .tuple (_ :: _) => true
    | _ => false) || ds.all fun d => match d with
    | .none => false
    | .tuple _ => false
    | _ => true
def sortP (ps : List (PV × PyData)) : List PV := (ps.mergeSort (PySem.W.dataLe false (fun p => p.2))).map (·.1)
def sortedV : PV → Option PV
  | .lst xs => match PV.dataL xs with
    | some ds => if alikeB ds && sortB ds && ds.all (fun d => decide (d.depth ≤ 50)) then some (.lst (sortP (xs.zip ds))) else none
    | none => none
  | _ => none
def rng1V : PV → Option PV
  | .int i => if rOk i then some (.lst (rngP 0 i)) else none
  | _ => none
def rng2V : PV → PV → Option PV
  | .int i, .int j => if rOk i && rOk j then some (.lst (rngP i j)) else none
  | _, _ => none
def zipV : PV → PV → Option PV
  | .tup xs, .tup ys => some (.lst ((xs.zip ys).map fun p => .tup [p.1, p.2]))
  | .lst xs, .lst ys => some (.lst ((xs.zip ys).map fun p => .tup [p.1, p.2]))
  | _, _ => none
/-- zip, both alike long -/
def zipsV : PV → PV → Option PV
  | .tup xs, .tup ys => if xs.length = ys.length then some (.lst ((xs.zip ys).map fun p => .tup [p.1, p.2])) else none
  | _, _ => none
/-- dicts whose keys are tuples -/
def keyL : List PV → Option (List Key)
  | [] => some []
  | x :: r => match keyP x, keyL r with
    | some k, some ks => some (k :: ks)
    | _, _ => none
def trip : PV → Option (List Key × PV)
  | .tup [a, b, v] => match keyP a, keyP b with
    | some k, some l => some ([k, l], v)
    | _, _ => none
  | _ => none
def trips : List PV → Option (List (List Key) × List PV)
  | [] => some ([], [])
  | x :: r => match trip x, trips r with
    | some p, some q => some (p.1 :: q.1, p.2 :: q.2)
    | _, _ => none
def dttV (ys : List PV) : Option PV := match trips ys with
  | some q => if q.1.Nodup ∧ szOk q.1.length = true then some (.dtt q.1 q.2) else none
  | none => none
def valT : List (List Key) → List PV → List Key → Option PV
  | k :: ks, t :: ts, x => if k = x then some t else valT ks ts x
  | _, _, _ => none
def dgetTV : PV → PV → Option PV
  | .dtt ks ts, .tup xs => match keyL xs with
    | some k => valT ks ts k
    | none => none
  | _, _ => none
def dkeysV : PV → Option PV
  | .dtt ks _ => some (.lst (ks.map fun k => .tup (k.map kP)))
  | _ => none
/-- instances -/
def lookS : List Str → List PV → Str → Option PV
  | k :: ks, t :: ts, x => if k = x then some t else lookS ks ts x
  | _, _, _ => none
def attrV (cn x : Str) : PV → Option PV
  | .obj c ks xs => if c = cn then lookS ks xs x else none
  | _ => none
def isObj (cn m : Str) : PV → Bool
  | .obj c ks _ => decide (c = cn) && !ks.contains m
  | _ => false
def permA {α : Type} (xs : List α) : List Nat → Option (List α)
  | [] => some []
  | i :: is => match xs[i]?, permA xs is with
    | some x, some r => some (x :: r)
    | _, _ => none
def lstG : PV → Option PV
  | .lst xs => some (.lst xs)
  | _ => none
/-- the second clause of a comprehension, its turns one behind the other -/
def flatL (f : PV → Cel → R (List PV)) : List PV → Cel → R (List PV)
  | [], st => .ok [] st
  | x :: xs, st => match f x st with
    | .ok ys st1 => (flatL f xs st1).bind fun zs st2 => .ok (ys ++ zs) st2
    | _ => .bad
section
variable (Φ : Nat → List PV → Cel → R PV)
mutual
def ev : C → En → Cel → R PV
  | .var i, ρ, st => match ρ[i]? with
    | some (.val v) => .ok v st
    | _ => .bad
  | .bor i, ρ, st => match ρ[i]? with
    | some (.own v) => .ok v st
    | some (.val v) => .ok v st
    | _ => .bad
  | .int i, _, st => .ok (.int i) st
  | .str s, _, st => .ok (.str s) st
  | .bl b, _, st => .ok (.bl b) st
  | .non, _, st => .ok .non st
  | .bin op a b, ρ, st => (ev a ρ st).bind fun x st => (ev b ρ st).bind fun y st => R.of (binV op x y) st
  | .neg a, ρ, st => (ev a ρ st).bind fun x st => R.of (negV x) st
  | .not a, ρ, st => (ev a ρ st).bind fun x st => R.of (notV x) st
  | .cmp op a b, ρ, st => (ev a ρ st).bind fun x st => (ev b ρ st).bind fun y st => R.of ((cmpV op x y).map .bl) st
  | .and a b, ρ, st => (ev a ρ st).bind fun x st => match x with
    | .bl true => ev b ρ st
    | .bl false => .ok (.bl false) st
    | _ => .bad
  | .or a b, ρ, st => (ev a ρ st).bind fun x st => match x with
    | .bl true => .ok (.bl true) st
    | .bl false => ev b ρ st
    | _ => .bad
  | .ite t a b, ρ, st => (ev t ρ st).bind fun x st => match x with
    | .bl true => ev a ρ st
    | .bl false => ev b ρ st
    | _ => .bad
  | .tup es, ρ, st => (evs es ρ st).bind fun xs st => if szOk xs.length then .ok (.tup xs) st else .bad
  | .lst es, ρ, st => (evs es ρ st).bind fun xs st => if szOk xs.length then .ok (.lst xs) st else .bad
  | .call f es, ρ, st => (evs es ρ st).bind fun xs st => (Φ f xs st).noexc
  | .len a, ρ, st => (ev a ρ st).bind fun x st => R.of (lenV x) st
  | .toInt a, ρ, st => (ev a ρ st).bind fun x st => R.of (toIntV x) st
  | .tupleOf a, ρ, st => (ev a ρ st).bind fun x st => R.of (tupleV x) st
  | .listOf a, ρ, st => (ev a ρ st).bind fun x st => R.of (listV x) st
  | .isa a t, ρ, st => (ev a ρ st).bind fun x st => R.of ((isaV x t).map .bl) st
  | .all a, ρ, st => (ev a ρ st).bind fun x st => R.of (allV x) st
  | .indexOf a b, ρ, st => (ev a ρ st).bind fun x st => match x with
    | .lst xs => (ev b ρ st).bind fun y st => R.of (indexV (.lst xs) y) st
    | _ => .bad
  | .ix a i, ρ, st => (ev a ρ st).bind fun x st => (ev i ρ st).bind fun y st => R.of (ixV st x y) st
  | .sl a lo hi, ρ, st => (ev a ρ st).bind fun x st => (evo lo ρ st).bind fun l st => (evo hi ρ st).bind fun h st => R.of (slV x l h) st
  | .comp elt tg it ifs own, ρ, st => (ev it ρ st).bind fun iv st => match itemsOf iv with
    | some xs => (compL (fun x st => match assignT tg x (wipeE ρ own) with
        | some ρ1 => (evt ifs ρ1 st).bind fun b st => if b then (ev elt ρ1 st).bind fun y st => .ok (some y) st else .ok none st
        | none => .bad) xs st).bind fun ys st => if szOk ys.length then .ok (.lst ys) st else .bad
    | none => .bad
  | .rng1 a, ρ, st => (ev a ρ st).bind fun x st => R.of (rng1V x) st
  | .rng2 a b, ρ, st => (ev a ρ st).bind fun x st => (ev b ρ st).bind fun y st => R.of (rng2V x y) st
  | .zip2 a b, ρ, st => (ev a ρ st).bind fun x st => (ev b ρ st).bind fun y st => R.of (zipV x y) st
  | .repr a, ρ, st => (ev a ρ st).bind fun x st => R.of (reprV x) st
  | .dct kvs, ρ, st => (evs kvs ρ st).bind fun xs st => R.of (dctV xs) st
  | .dget a k, ρ, st => (ev a ρ st).bind fun x st => (ev k ρ st).bind fun y st => R.of (dgetV x y) st
  | .any a, ρ, st => (ev a ρ st).bind fun x st => R.of (anyV x) st
  | .str1 a, ρ, st => (ev a ρ st).bind fun x st => R.of (str1V x) st
  | .chain o1 o2 a b c, ρ, st => (ev a ρ st).bind fun x st => (ev b ρ st).bind fun y st => match cmpV o1 x y with
    | some true => (ev c ρ st).bind fun z st => R.of ((cmpV o2 y z).map .bl) st
    | some false => .ok (.bl false) st
    | none => .bad
  | .gc g, ρ, st => (Φ (1000 + g) [] st).noexc
  | .kget g k, ρ, st => (ev k ρ st).bind fun x st => (Φ (2000 + g) [x] st).noexc
  | .kin neg g k, ρ, st => (ev k ρ st).bind fun x st => (Φ (3000 + g) [x] st).noexc.bind fun b st => if neg then R.of (notV b) st else .ok b st
  | .comp2 elt tg it tg2 it2 ifs own own2, ρ, st => (ev it ρ st).bind fun iv st => match itemsOf iv with
    | some xs => (flatL (fun x st => match assignT tg x (wipeE ρ own) with
        | some ρ1 => (ev it2 ρ1 st).bind fun iv2 st => (match itemsOf iv2 with
          | some ys => compL (fun y st => match assignT tg2 y (wipeE ρ1 own2) with
            | some ρ2 => (evt ifs ρ2 st).bind fun b st => if b then (ev elt ρ2 st).bind fun z st => .ok (some z) st else .ok none st
            | none => .bad) ys st
          | none => .bad)
        | none => .bad) xs st).bind fun ys st => if szOk ys.length then .ok (.lst ys) st else .bad
    | none => .bad
  | .attr cn a x, ρ, st => (ev a ρ st).bind fun o st => R.of (attrV cn x o) st
  | .meth cn m f a es, ρ, st => (ev a ρ st).bind fun o st => if isObj cn m o then (evs es ρ st).bind fun xs st => (Φ f (o :: xs) st).noexc else .bad
  | .make f es, ρ, st => (evs es ρ st).bind fun xs st => (Φ f xs st).noexc
  | .callK f ks pm es, ρ, st => (evs es ρ st).bind fun xs st => if xs.length = ks.length then (match permA xs pm with
    | some ys => (Φ f ys st).noexc
    | none => .bad) else .bad
  | .zips a b, ρ, st => (ev a ρ st).bind fun x st => (ev b ρ st).bind fun y st => R.of (zipsV x y) st
  | .dkeys a, ρ, st => (ev a ρ st).bind fun x st => R.of (dkeysV x) st
  | .dgetT a k, ρ, st => (ev a ρ st).bind fun x st => (ev k ρ st).bind fun y st => R.of (dgetTV x y) st
  | .glist f es, ρ, st => (evs es ρ st).bind fun xs st => (Φ f xs st).noexc.bind fun x st => R.of (lstG x) st
  | .dcomp2 k1 k2 v tg it tg2 it2 own own2, ρ, st => (ev it ρ st).bind fun iv st => match itemsOf iv with
    | some xs => (flatL (fun x st => match assignT tg x (wipeE ρ own) with
        | some ρ1 => (ev it2 ρ1 st).bind fun iv2 st => (match itemsOf iv2 with
          | some ys => compL (fun y st => match assignT tg2 y (wipeE ρ1 own2) with
            | some ρ2 => (ev k1 ρ2 st).bind fun a st => (ev k2 ρ2 st).bind fun b st => (ev v ρ2 st).bind fun z st => .ok (some (.tup [a, b, z])) st
            | none => .bad) ys st
          | none => .bad)
        | none => .bad) xs st).bind fun ys st => R.of (dttV ys) st
    | none => .bad
  | .cat a b, ρ, st => (ev a ρ st).bind fun x st => (ev b ρ st).bind fun y st => R.of (catV x y) st
  | .isa2 a t u, ρ, st => (ev a ρ st).bind fun x st => R.of ((isa2V x t u).map .bl) st
  | .dgetD a k, ρ, st => (ev a ρ st).bind fun x st => match x with
    | .dct ks ts => (ev k ρ st).bind fun y st => R.of (dgetN (.dct ks ts) y) st
    | _ => .bad
  | .revT a, ρ, st => (ev a ρ st).bind fun x st => R.of (revTV x) st
  | .enum a, ρ, st => (ev a ρ st).bind fun x st => R.of (enumV x) st
  | .join a b, ρ, st => (ev a ρ st).bind fun x st => match x with
    | .str s => (ev b ρ st).bind fun y st => R.of (joinV (.str s) y) st
    | _ => .bad
  | .fstr es, ρ, st => (evj es Str.empty ρ st).bind fun s st => .ok (.str s) st
  | .rev a, ρ, st => (ev a ρ st).bind fun x st => R.of (revV x) st
  | .tupRng a b, ρ, st => (ev a ρ st).bind fun x st => (ev b ρ st).bind fun y st => R.of (tupRngV x y) st
  | .sset a, ρ, st => (ev a ρ st).bind fun x st => R.of (ssetV x) st
  | .sorted a, ρ, st => (ev a ρ st).bind fun x st => R.of (sortedV x) st
def evs : Cs → En → Cel → R (List PV)
  | .nil, _, st => .ok [] st
  | .cons a r, ρ, st => (ev a ρ st).bind fun x st => (evs r ρ st).bind fun xs st => .ok (x :: xs) st
  | .star a r, ρ, st => (ev a ρ st).bind fun x st => match x with
    | .tup ys => (evs r ρ st).bind fun xs st => .ok (ys ++ xs) st
    | .lst ys => (evs r ρ st).bind fun xs st => .ok (ys ++ xs) st
    | _ => .bad
/-- the parts of an f-string -/
def evj : Cs → Str → En → Cel → R Str
  | .nil, acc, _, st => .ok acc st
  | .cons a r, acc, ρ, st => (ev a ρ st).bind fun x st => match fmtV acc x with
    | some acc' => evj r acc' ρ st
    | none => .bad
  | .star _ _, _, _, _ => .bad
/-- a slice's part: nothing, or an int -/
def evo : Cs → En → Cel → R (Option Int)
  | .cons a .nil, ρ, st => (ev a ρ st).bind fun x st => match x with
    | .int i => .ok (some i) st
    | _ => .bad
  | .nil, _, st => .ok none st
  | _, _, _ => .bad
/-- a clause's tests: none or one -/
def evt : Cs → En → Cel → R Bool
  | .cons a .nil, ρ, st => (ev a ρ st).bind fun x st => R.of (blV x) st
  | .nil, _, st => .ok true st
  | _, _, _ => .bad
end
end
end Ev
namespace Ev
open PySem L2
mutual
inductive S where
  | asg (tg : List Nat) (e : C) | par (is : List Nat) (es : Cs) | asgO (i : Nat) (e : C) | asgC (i : Nat) (e : C) | setI (a i e : C)
  | app (i : Nat) (e : C) | ext (i : Nat) (e : C)
  | if_ (t : C) (a b : Ss) | for_ (tg : List Nat) (it : C) (b : Ss) | while_ (t : C) (b : Ss)
  | ret (e : C) | expr (e : C) | pass | brk | cnt | frz (i : Nat)
  | ustar (is : List Nat) (j : Nat) (e : C)
  | popA (tg : List Nat) (i : Nat) | popK (i : Nat) (k : C) | insO (i : Nat) (a e : C) | setO (i : Nat) (a e : C) | never
  | parOV (i j : Nat) (a b : C) | parVO (i j : Nat) (a b : C)
inductive Ss where
  | nil | cons (s : S) (r : Ss)
end
inductive RS where
  | nx (ρ : En) (st : Cel) | rt (v : PV) (st : Cel) | bk (ρ : En) (st : Cel) | ct (ρ : En) (st : Cel) | exc (e : EX) (ρ : En) (st : Cel) | bad
def RS.seq : RS → (En → Cel → RS) → RS
  | .nx ρ st, f => f ρ st
  | r, _ => r
@[simp] theorem RS.seq_nx (ρ : En) (st : Cel) (f : En → Cel → RS) : (RS.nx ρ st).seq f = f ρ st := rfl
@[simp] theorem RS.seq_rt (v : PV) (st : Cel) (f : En → Cel → RS) : (RS.rt v st).seq f = .rt v st := rfl
@[simp] theorem RS.seq_bk (ρ : En) (st : Cel) (f : En → Cel → RS) : (RS.bk ρ st).seq f = .bk ρ st := rfl
@[simp] theorem RS.seq_ct (ρ : En) (st : Cel) (f : En → Cel → RS) : (RS.ct ρ st).seq f = .ct ρ st := rfl
@[simp] theorem RS.seq_exc (e : EX) (ρ : En) (st : Cel) (f : En → Cel → RS) : (RS.exc e ρ st).seq f = .exc e ρ st := rfl
@[simp] theorem RS.seq_bad (f : En → Cel → RS) : RS.bad.seq f = .bad := rfl
/-- an expression's end within a statement -/
def R.then {α : Type} (r : R α) (ρ : En) (f : α → Cel → RS) : RS := match r with
  | .ok a st => f a st
  | .exc e st => .exc e ρ st
  | .bad => .bad
@[simp] theorem R.then_ok {α : Type} (a : α) (st : Cel) (ρ : En) (f : α → Cel → RS) : (R.ok a st).then ρ f = f a st := rfl
@[simp] theorem R.then_exc {α : Type} (e : EX) (st : Cel) (ρ : En) (f : α → Cel → RS) : (R.exc e st : R α).then ρ f = .exc e ρ st := rfl
@[simp] theorem R.then_bad {α : Type} (ρ : En) (f : α → Cel → RS) : (R.bad : R α).then ρ f = .bad := rfl
/-- behind a loop's body -/
def nextL (r : RS) (k : En → Cel → RS) : RS := match r with
  | .nx ρ st => k ρ st
  | .ct ρ st => k ρ st
  | .bk ρ st => .nx ρ st
  | .rt v st => .rt v st
  | .exc e ρ st => .exc e ρ st
  | .bad => .bad
@[simp] theorem nextL_nx (ρ : En) (st : Cel) (k : En → Cel → RS) : nextL (.nx ρ st) k = k ρ st := rfl
@[simp] theorem nextL_ct (ρ : En) (st : Cel) (k : En → Cel → RS) : nextL (.ct ρ st) k = k ρ st := rfl
@[simp] theorem nextL_bk (ρ : En) (st : Cel) (k : En → Cel → RS) : nextL (.bk ρ st) k = .nx ρ st := rfl
@[simp] theorem nextL_rt (v : PV) (st : Cel) (k : En → Cel → RS) : nextL (.rt v st) k = .rt v st := rfl
@[simp] theorem nextL_bad (k : En → Cel → RS) : nextL .bad k = .bad := rfl
/-- by a test's answer -/
def ifB (x : PV) (a b : RS) : RS := match x with
  | .bl true => a
  | .bl false => b
  | _ => .bad
@[simp] theorem ifB_bl (c : Bool) (a b : RS) : ifB (.bl c) a b = if c then a else b := by cases c <;> rfl
def forL (f : PV → En → Cel → RS) : List PV → En → Cel → RS
  | [], ρ, st => .nx ρ st
  | x :: xs, ρ, st => nextL (f x ρ st) fun ρ1 st1 => forL f xs ρ1 st1
def whileL (t : En → Cel → R PV) (b : En → Cel → RS) : Nat → En → Cel → RS
  | 0, _, _ => .bad
  | n + 1, ρ, st => (t ρ st).then ρ fun x st => ifB x (nextL (b ρ st) fun ρ1 st1 => whileL t b n ρ1 st1) (.nx ρ st)
def ixP (n : Nat) (i : Int) : Option Nat := ixN n i
def popI (xs : List PV) : PV → Option (List PV)
  | .int n => if rOk n then (ixP xs.length n).map fun m => xs.eraseIdx m else none
  | _ => none
def insI (xs : List PV) (z x : PV) : Option (List PV) := match z with
  | .int n => if 0 ≤ n && n < 2 ^ 62 && szOk (xs.length + 1) then some (xs.take n.toNat ++ [x] ++ xs.drop n.toNat) else none
  | _ => none
def setI' (xs : List PV) (z x : PV) : Option (List PV) := match z with
  | .int n => (ixP xs.length n).map fun m => xs.set m x
  | _ => none
def lstOf : PV → Option (List PV)
  | .lst xs => some xs
  | _ => none
section
variable (Φ : Nat → List PV → Cel → R PV) (F : Nat)
mutual
def evS : S → En → Cel → RS
  | .asg tg e, ρ, st => (ev Φ e ρ st).then ρ fun x st => match assignT tg x ρ with
    | some ρ1 => .nx ρ1 st
    | none => .bad
  | .par is es, ρ, st => (evs Φ es ρ st).then ρ fun xs st => if xs.length = is.length then .nx ((is.zip xs).foldl (fun ρ p => set1 ρ p.1 p.2) ρ) st else .bad
  | .asgO i e, ρ, st => (ev Φ e ρ st).then ρ fun x st => match x with
    | .lst xs => .nx (ρ.set i (.own (.lst xs))) st
    | _ => .bad
  | .asgC i e, ρ, st => (ev Φ e ρ st).then ρ fun x st => match x with
    | .lst xs => .nx (ρ.set i (.val (.cell st.length))) (st ++ [.lst xs])
    | _ => .bad
  | .setI a i e, ρ, st => (ev Φ e ρ st).then ρ fun x st => (ev Φ a ρ st).then ρ fun o st => (ev Φ i ρ st).then ρ fun j st => match o, j with
    | .cell k, .int j => (match st[k]? with
      | some (.lst xs) => (match ixP xs.length j with
        | some n => .nx ρ (st.set k (.lst (xs.set n x)))
        | none => .bad)
      | _ => .bad)
    | _, _ => .bad
  | .app i e, ρ, st => match ρ[i]? with
    | some (.own (.lst xs)) => (ev Φ e ρ st).then ρ fun x st => if szOk (xs.length + 1) then .nx (ρ.set i (.own (.lst (xs ++ [x])))) st else .bad
    | _ => .bad
  | .ext i e, ρ, st => match ρ[i]? with
    | some (.own (.lst xs)) => (ev Φ e ρ st).then ρ fun x st => match x with
      | .lst ys => if szOk (xs.length + ys.length) then .nx (ρ.set i (.own (.lst (xs ++ ys)))) st else .bad
      | _ => .bad
    | _ => .bad
  | .if_ t a b, ρ, st => (ev Φ t ρ st).then ρ fun x st => ifB x (evSs a ρ st) (evSs b ρ st)
  | .for_ tg it b, ρ, st => (ev Φ it ρ st).then ρ fun iv st => match itemsOf iv with
    | some xs => forL (fun x ρ st => match assignT tg x ρ with
      | some ρ1 => evSs b ρ1 st
      | none => .bad) xs ρ st
    | none => .bad
  | .while_ t b, ρ, st => whileL (fun ρ st => ev Φ t ρ st) (fun ρ st => evSs b ρ st) F ρ st
  | .ret e, ρ, st => (ev Φ e ρ st).then ρ fun x st => .rt x st
  | .expr e, ρ, st => (ev Φ e ρ st).then ρ fun _ st => .nx ρ st
  | .pass, ρ, st => .nx ρ st
  | .brk, ρ, st => .bk ρ st
  | .cnt, ρ, st => .ct ρ st
  | .frz i, ρ, st => match ρ[i]? with
    | some (.own v) => .nx (ρ.set i (.val v)) st
    | _ => .nx ρ st
  | .ustar is j e, ρ, st => (ev Φ e ρ st).then ρ fun x st => match x with
    | .tup xs => if is.length ≤ xs.length ∧ xs.length ≤ 16384 then .nx (set1 ((is.zip (xs.take is.length)).foldl (fun ρ p => set1 ρ p.1 p.2) ρ) j (.lst (xs.drop is.length))) st else .bad
    | _ => .bad
  | .popA tg i, ρ, st => match ρ[i]? with
    | some (.own (.lst xs)) => (match xs[xs.length - 1]? with
      | some y => (match assignT tg y (ρ.set i (.own (.lst xs.dropLast))) with
        | some ρ1 => .nx ρ1 st
        | none => .bad)
      | none => .bad)
    | _ => .bad
  | .popK i k, ρ, st => match ρ[i]? with
    | some (.own (.lst xs)) => (ev Φ k ρ st).then ρ fun z st => (match popI xs z with
      | some ys => .nx (ρ.set i (.own (.lst ys))) st
      | none => .bad)
    | _ => .bad
  | .insO i a e, ρ, st => match ρ[i]? with
    | some (.own (.lst xs)) => (ev Φ a ρ st).then ρ fun z st => (ev Φ e ρ st).then ρ fun x st => (match insI xs z x with
      | some ys => .nx (ρ.set i (.own (.lst ys))) st
      | none => .bad)
    | _ => .bad
  | .setO i a e, ρ, st => match ρ[i]? with
    | some (.own (.lst xs)) => (ev Φ e ρ st).then ρ fun x st => (ev Φ a ρ st).then ρ fun z st => (match setI' xs z x with
      | some ys => .nx (ρ.set i (.own (.lst ys))) st
      | none => .bad)
    | _ => .bad
  | .never, _, _ => .bad
  | .parOV i j a b, ρ, st => (ev Φ a ρ st).then ρ fun x st => (match lstOf x with
    | some xs => (ev Φ b ρ st).then ρ fun y st => if i = j then .bad else .nx ((ρ.set i (.own (.lst xs))).set j (.val y)) st
    | none => .bad)
  | .parVO i j a b, ρ, st => (ev Φ a ρ st).then ρ fun x st => (ev Φ b ρ st).then ρ fun y st => (match lstOf y with
    | some ys => if i = j then .bad else .nx ((ρ.set i (.val x)).set j (.own (.lst ys))) st
    | none => .bad)
def evSs : Ss → En → Cel → RS
  | .nil, ρ, st => .nx ρ st
  | .cons s r, ρ, st => (evS s ρ st).seq fun ρ st => evSs r ρ st
end
end
/-- a def: its fixed parameters, whether there is a star one, its slots, its body -/
structure Fn where
  ar : Nat
  star : Bool := false
  n : Nat
  body : Ss
def initE (n : Nat) (args : List PV) : En := args.map .val ++ List.replicate (n - args.length) .emp
def fin : RS → R PV
  | .nx _ st => .ok .non st
  | .rt v st => .ok v st
  | .exc e _ st => .exc e st
  | _ => .bad
def run (Φ : Nat → List PV → Cel → R PV) (F : Nat) (d : Fn) (args : List PV) (st : Cel) : R PV :=
  if d.star then (if d.ar ≤ args.length && szOk (args.length - d.ar) then fin (evSs Φ F d.body (initE d.n (args.take d.ar ++ [.tup (args.drop d.ar)])) st) else .bad)
  else if args.length = d.ar then fin (evSs Φ F d.body (initE d.n args) st) else .bad
end Ev
namespace Ev
open PySem L2
/-- the world: the addresses that stand still, the cells' addresses -/
structure Wd where
  S : Addr → Prop
  cs : List Addr
/-- a list that is read and stands still: tracked, locked or written -/
def RoL (K : PySem.W.Frag) (ω : Wd) (H : Hp) (a : Addr) (vs : List V) : Prop :=
  (ω.S a ∧ H a = some (.lst vs)) ∨ (∃ o, H a = some (.frz o (.lst vs))) ∨
    ∃ (o : Obj) (its : Array Value) (n : Nat), K.lookup a = some o ∧ o.cls = .type "list" ∧ o.dict = none ∧ o.data = .seq its n ∧ its.size ≤ sizeLine ∧ Vals vs its.toList
theorem RoL.sq {K : PySem.W.Frag} {ω : Wd} {H : Hp} {a : Addr} {vs : List V} (h : RoL K ω H a vs) : SqL K H a vs := by
  rcases h with ⟨_, h⟩ | ⟨o, h⟩ | h
  · exact .inl (.inl h)
  · exact .inl (.inr ⟨o, h⟩)
  · exact .inr h
mutual
inductive Rep (K : PySem.W.Frag) (ω : Wd) (H : Hp) : V → PV → Prop
  | non : Rep K ω H .non .non
  | bl (b : Bool) : Rep K ω H (.bl b) (.bl b)
  | int (i : Int) : Rep K ω H (.int i) (.int i)
  | str (s : Str) : Rep K ω H (.str s) (.str s)
  | tup {a : Addr} {vs : List V} {ts : List PV} : SqT K H a vs → RepL K ω H vs ts → Rep K ω H (.ref a) (.tup ts)
  | lst {a : Addr} {vs : List V} {ts : List PV} : ω.S a → H a = some (.lst vs) → RepL K ω H vs ts → Rep K ω H (.ref a) (.lst ts)
  | rol {a : Addr} {vs : List V} {ts : List PV} : RoL K ω H a vs → RepL K ω H vs ts → Rep K ω H (.ref a) (.rol ts)
  | cell {a : Addr} {k : Nat} : ω.cs[k]? = some a → Rep K ω H (.ref a) (.cell k)
  | dct {a : Addr} {o : Obj} {kvs : List (Key × V)} {ts : List PV} : H a = some (.frz o (.dK kvs)) → RepL K ω H (kvs.map (·.2)) ts → Rep K ω H (.ref a) (.dct (kvs.map (·.1)) ts)
  | dtt {a : Addr} {kvs : List (List Key × V)} {ts : List PV} : ω.S a → H a = some (.dT kvs) → RepL K ω H (kvs.map (·.2)) ts → Rep K ω H (.ref a) (.dtt (kvs.map (·.1)) ts)
  | obj {a C dx : Addr} {cn : Str} {fv : List (Str × V)} {ts : List PV} : PySem.W.nsIn K mainGlobals cn = some (some (.ref C)) → ω.S a → H a = some (.ins C dx fv) → RepL K ω H (fv.map (·.2)) ts → Rep K ω H (.ref a) (.obj cn (fv.map (·.1)) ts)
inductive RepL (K : PySem.W.Frag) (ω : Wd) (H : Hp) : List V → List PV → Prop
  | nil : RepL K ω H [] []
  | cons {v : V} {vs : List V} {t : PV} {ts : List PV} : Rep K ω H v t → RepL K ω H vs ts → RepL K ω H (v :: vs) (t :: ts)
end
/-- what never changes by itself -/
def Stat : HO → Prop
  | .tup _ => True
  | .frz _ _ => True
  | _ => False
structure Ext (ω : Wd) (H : Hp) (ω' : Wd) (H' : Hp) : Prop where
  sub : ∀ a, ω.S a → ω'.S a
  cs : ∃ more, ω'.cs = ω.cs ++ more
  keep : ∀ a o, H a = some o → (ω.S a ∨ Stat o) → H' a = some o
theorem Ext.refl (ω : Wd) (H : Hp) : Ext ω H ω H := ⟨fun _ h => h, ⟨[], by simp⟩, fun _ _ h _ => h⟩
theorem Ext.trans {ω ω1 ω2 : Wd} {H H1 H2 : Hp} (a : Ext ω H ω1 H1) (b : Ext ω1 H1 ω2 H2) : Ext ω H ω2 H2 := by
  obtain ⟨m1, e1⟩ := a.cs
  obtain ⟨m2, e2⟩ := b.cs
  exact ⟨fun x h => b.sub x (a.sub x h), ⟨m1 ++ m2, by rw [e2, e1, List.append_assoc]⟩, fun x o h s => b.keep x o (a.keep x o h s) (s.elim (fun z => .inl (a.sub x z)) .inr)⟩
section
variable {K : PySem.W.Frag} {ω ω' : Wd} {H H' : Hp}
theorem Ext.sqT (e : Ext ω H ω' H') {a : Addr} {vs : List V} (h : SqT K H a vs) : SqT K H' a vs := by
  rcases h with (h | ⟨o, h⟩) | h
  · exact .inl (.inl (e.keep _ _ h (.inr trivial)))
  · exact .inl (.inr ⟨o, e.keep _ _ h (.inr trivial)⟩)
  · exact .inr h
theorem Ext.roL (e : Ext ω H ω' H') {a : Addr} {vs : List V} (h : RoL K ω H a vs) : RoL K ω' H' a vs := by
  rcases h with ⟨s, h⟩ | ⟨o, h⟩ | h
  · exact .inl ⟨e.sub _ s, e.keep _ _ h (.inl s)⟩
  · exact .inr (.inl ⟨o, e.keep _ _ h (.inr trivial)⟩)
  · exact .inr (.inr h)
theorem prefix_get {α : Type} {xs more : List α} {k : Nat} {a : α} (h : xs[k]? = some a) : (xs ++ more)[k]? = some a := by
  have hk : k < xs.length := by
    rcases Nat.lt_or_ge k xs.length with z | z
    · exact z
    · rw [List.getElem?_eq_none z] at h; cases h
  rw [List.getElem?_append_left hk]; exact h
mutual
theorem Rep.mono (e : Ext ω H ω' H') : ∀ {v : V} {t : PV}, Rep K ω H v t → Rep K ω' H' v t
  | _, _, .non => .non
  | _, _, .bl b => .bl b
  | _, _, .int i => .int i
  | _, _, .str s => .str s
  | _, _, .tup h r => .tup (e.sqT h) (RepL.mono e r)
  | _, _, .lst s h r => .lst (e.sub _ s) (e.keep _ _ h (.inl s)) (RepL.mono e r)
  | _, _, .rol h r => .rol (e.roL h) (RepL.mono e r)
  | _, _, .dct h r => .dct (e.keep _ _ h (.inr trivial)) (RepL.mono e r)
  | _, _, .dtt s h r => .dtt (e.sub _ s) (e.keep _ _ h (.inl s)) (RepL.mono e r)
  | _, _, .obj n s h r => .obj n (e.sub _ s) (e.keep _ _ h (.inl s)) (RepL.mono e r)
  | _, _, .cell h => .cell (by obtain ⟨m, q⟩ := e.cs; rw [q]; exact prefix_get h)
theorem RepL.mono (e : Ext ω H ω' H') : ∀ {vs : List V} {ts : List PV}, RepL K ω H vs ts → RepL K ω' H' vs ts
  | _, _, .nil => .nil
  | _, _, .cons h r => .cons (Rep.mono e h) (RepL.mono e r)
end
theorem RepL.length : ∀ {vs : List V} {ts : List PV}, RepL K ω H vs ts → vs.length = ts.length
  | _, _, .nil => rfl
  | _, _, .cons _ r => congrArg (· + 1) r.length
theorem RepL.append : ∀ {vs ws : List V} {ts us : List PV}, RepL K ω H vs ts → RepL K ω H ws us → RepL K ω H (vs ++ ws) (ts ++ us)
  | _, _, _, _, .nil, s => s
  | _, _, _, _, .cons h r, s => .cons h (RepL.append r s)
theorem RepL.get : ∀ {vs : List V} {ts : List PV} {i : Nat} {t : PV}, RepL K ω H vs ts → ts[i]? = some t → ∃ v, vs[i]? = some v ∧ Rep K ω H v t
  | _, _, _, _, .nil, h => by simp at h
  | _, _, 0, _, .cons h r, e => by simp at e; subst e; exact ⟨_, rfl, h⟩
  | _, _, i + 1, t, .cons h r, e => by
    obtain ⟨v, a, b⟩ := RepL.get (i := i) (t := t) r (by simpa using e)
    exact ⟨v, by simpa using a, b⟩
theorem RepL.getV : ∀ {vs : List V} {ts : List PV} {i : Nat} {v : V}, RepL K ω H vs ts → vs[i]? = some v → ∃ t, ts[i]? = some t ∧ Rep K ω H v t
  | _, _, _, _, .nil, h => by simp at h
  | _, _, 0, _, .cons h r, e => by simp at e; subst e; exact ⟨_, rfl, h⟩
  | _, _, i + 1, v, .cons h r, e => by
    obtain ⟨t, a, b⟩ := RepL.getV (i := i) (v := v) r (by simpa using e)
    exact ⟨t, by simpa using a, b⟩
theorem RepL.drop : ∀ {vs : List V} {ts : List PV} (n : Nat), RepL K ω H vs ts → RepL K ω H (vs.drop n) (ts.drop n)
  | _, _, 0, r => r
  | _, _, _ + 1, .nil => .nil
  | _, _, n + 1, .cons _ r => RepL.drop n r
theorem RepL.take : ∀ {vs : List V} {ts : List PV} (n : Nat), RepL K ω H vs ts → RepL K ω H (vs.take n) (ts.take n)
  | _, _, 0, _ => .nil
  | _, _, _ + 1, .nil => .nil
  | _, _, n + 1, .cons h r => .cons h (RepL.take n r)
theorem RepL.set {v : V} {t : PV} (h : Rep K ω H v t) : ∀ {vs : List V} {ts : List PV} (n : Nat), RepL K ω H vs ts → RepL K ω H (vs.set n v) (ts.set n t)
  | _, _, _, .nil => .nil
  | _, _, 0, .cons _ r => .cons h r
  | _, _, n + 1, .cons q r => .cons q (RepL.set h n r)
theorem RepL.flat : ∀ (n : Nat) {vs : List V} {ts : List PV}, RepL K ω H vs ts → RepL K ω H (List.replicate n vs).flatten (List.replicate n ts).flatten
  | 0, _, _, _ => .nil
  | n + 1, _, _, r => by
    rw [List.replicate_succ, List.replicate_succ, List.flatten_cons, List.flatten_cons]
    exact r.append (RepL.flat n r)
mutual
theorem Rep.dp : ∀ {t : PV} {v : V} {d : PyData}, Rep K ω H v t → t.data = some d → Dp K H v d
  | .non, _, _, .non, e => by cases e; exact .non
  | .bl _, _, _, .bl b, e => by cases e; exact .bl b
  | .int _, _, _, .int i, e => by cases e; exact .int i
  | .str _, _, _, .str s, e => by cases e; exact .str s
  | .tup ts, _, d, .tup h r, e => by
    unfold PV.data at e
    cases q : PV.dataL ts with
    | none => rw [q] at e; cases e
    | some ds => rw [q] at e; cases e; exact .tup h (RepL.dp r q)
  | .lst ts, _, d, .lst s h r, e => by
    unfold PV.data at e
    cases q : PV.dataL ts with
    | none => rw [q] at e; cases e
    | some ds => rw [q] at e; cases e; exact .lst (.inl (.inl h)) (RepL.dp r q)
  | .rol ts, _, d, _, e => by unfold PV.data at e; cases e
  | .cell k, _, d, _, e => by unfold PV.data at e; cases e
  | .dct _ _, _, d, _, e => by unfold PV.data at e; cases e
  | .dtt _ _, _, d, _, e => by unfold PV.data at e; cases e
  | .obj _ _ _, _, d, _, e => by unfold PV.data at e; cases e
theorem RepL.dp : ∀ {ts : List PV} {vs : List V} {ds : List PyData}, RepL K ω H vs ts → PV.dataL ts = some ds → DpAll K H vs ds
  | [], _, _, .nil, e => by cases e; exact .nil
  | t :: ts, _, ds, .cons h r, e => by
    unfold PV.dataL at e
    cases q1 : t.data with
    | none => rw [q1] at e; cases e
    | some d =>
      cases q2 : PV.dataL ts with
      | none => rw [q1, q2] at e; cases e
      | some ds' => rw [q1, q2] at e; cases e; exact .cons (Rep.dp h q1) (RepL.dp r q2)
end
end
/-! ### the state of a def's body -/
/-- at the entry: what stood still, the heap, the cells -/
structure Gh where
  S0 : Addr → Prop
  H0 : Hp
  cs0 : List Addr
structure CelOk (K : PySem.W.Frag) (ω : Wd) (st : Cel) (H : Hp) : Prop where
  len : ω.cs.length = st.length
  nd : ω.cs.Nodup
  out : ∀ a ∈ ω.cs, ¬ ω.S a
  trk : ∀ a, ω.S a → ∃ o, H a = some o
  at_ : ∀ (k : Nat) (a : Addr), ω.cs[k]? = some a → ∃ vs ts, st[k]? = some (PV.lst ts) ∧ H a = some (.lst vs) ∧ RepL K ω H vs ts
/-- a list that a name owns -/
def OwnAt (K : PySem.W.Frag) (ω : Wd) (H : Hp) (a : Addr) (t : PV) : Prop := ∃ vs ts, t = .lst ts ∧ H a = some (.lst vs) ∧ RepL K ω H vs ts
structure Rel (K : PySem.W.Frag) (g : Gh) (ω : Wd) (ρ : En) (st : Cel) (σ : St) (H : Hp) : Prop where
  len : σ.length = ρ.length
  val : ∀ (i : Nat) (t : PV), ρ[i]? = some (Slot.val t) → ∃ v, σ[i]? = some (some v) ∧ Rep K ω H v t
  own : ∀ (i : Nat) (t : PV), ρ[i]? = some (Slot.own t) → ∃ a, σ[i]? = some (some (V.ref a)) ∧ OwnAt K ω H a t ∧ ¬ ω.S a ∧ a ∉ ω.cs ∧ g.H0 a = none
  sep : ∀ (i j : Nat) (t u : PV) (a : Addr), ρ[i]? = some (Slot.own t) → ρ[j]? = some (Slot.own u) → σ[i]? = some (some (V.ref a)) → σ[j]? = some (some (V.ref a)) → i = j
  cells : CelOk K ω st H
  base : ∀ a o, g.H0 a = some o → a ∉ g.cs0 → H a = some o
  sub : ∀ a, g.S0 a → ω.S a
  new : ∀ a, ω.S a → g.S0 a ∨ g.H0 a = none
  csp : ∃ more, ω.cs = g.cs0 ++ more
  csn : ∀ a ∈ ω.cs, a ∈ g.cs0 ∨ g.H0 a = none
  cs0 : ∀ a ∈ g.cs0, ∃ o, g.H0 a = some o
/-- the heap grows: all that was tracked stays; what stands still now stood still or is new -/
structure Grow (ω : Wd) (H : Hp) (ω' : Wd) (H' : Hp) : Prop where
  keep : ∀ a o, H a = some o → H' a = some o
  sub : ∀ a, ω.S a → ω'.S a
  new : ∀ a, ω'.S a → ω.S a ∨ (H a = none ∧ ∃ o, H' a = some o)
  cs : ω'.cs = ω.cs
section
variable {K : PySem.W.Frag} {g : Gh} {ω ω' : Wd} {ρ : En} {st : Cel} {σ : St} {H H' : Hp}
theorem Grow.refl (ω : Wd) (H : Hp) : Grow ω H ω H := ⟨fun _ _ h => h, fun _ h => h, fun _ h => .inl h, rfl⟩
theorem Grow.ext (x : Grow ω H ω' H') : Ext ω H ω' H' := ⟨x.sub, ⟨[], by rw [x.cs]; simp⟩, fun a o h _ => x.keep a o h⟩
theorem Grow.trans {ω2 : Wd} {H2 : Hp} (x : Grow ω H ω' H') (y : Grow ω' H' ω2 H2) : Grow ω H ω2 H2 :=
  ⟨fun a o h => y.keep a o (x.keep a o h), fun a h => y.sub a (x.sub a h), fun a h => (y.new a h).elim (fun z => (x.new a z).imp id fun ⟨z1, o, z2⟩ => ⟨z1, o, y.keep a o z2⟩) (fun z => .inr ⟨(by
    cases q : H a with
    | none => rfl
    | some o =>
      have z1 := z.1
      rw [x.keep a o q] at z1
      cases z1), z.2⟩), y.cs.trans x.cs⟩
theorem CelOk.grow (c : CelOk K ω st H) (x : Grow ω H ω' H') : CelOk K ω' st H' := by
  refine ⟨by rw [x.cs]; exact c.len, by rw [x.cs]; exact c.nd, fun a ha h => ?_, fun a h => ?_, fun k a ha => ?_⟩
  · rw [x.cs] at ha
    rcases x.new a h with z | ⟨z, _⟩
    · exact c.out a ha z
    · obtain ⟨k, hk⟩ := List.getElem?_of_mem ha
      obtain ⟨vs, ts, _, q, _⟩ := c.at_ k a hk
      rw [q] at z; cases z
  · rcases x.new a h with z | ⟨_, z⟩
    · obtain ⟨o, q⟩ := c.trk a z
      exact ⟨o, x.keep a o q⟩
    · exact z
  · rw [x.cs] at ha
    obtain ⟨vs, ts, h1, h2, h3⟩ := c.at_ k a ha
    exact ⟨vs, ts, h1, x.keep _ _ h2, h3.mono x.ext⟩
theorem CelOk.lstAt (c : CelOk K ω st H) {a : Addr} (ha : a ∈ ω.cs) : ∃ vs, H a = some (.lst vs) := by
  obtain ⟨k, hk⟩ := List.getElem?_of_mem ha
  obtain ⟨vs, ts, _, q, _⟩ := c.at_ k a hk
  exact ⟨vs, q⟩
theorem Rel.none0 (r : Rel K g ω ρ st σ H) {a : Addr} (h : H a = none) : g.H0 a = none := by
  cases q : g.H0 a with
  | none => rfl
  | some o =>
    by_cases hc : a ∈ g.cs0
    · obtain ⟨m, e⟩ := r.csp
      obtain ⟨vs, z⟩ := r.cells.lstAt (a := a) (by rw [e]; exact List.mem_append_left _ hc)
      rw [h] at z; cases z
    · rw [r.base a o q hc] at h; cases h
theorem Rel.grow (r : Rel K g ω ρ st σ H) (x : Grow ω H ω' H') : Rel K g ω' ρ st σ H' := by
  refine ⟨r.len, fun i t h => ?_, fun i t h => ?_, r.sep, r.cells.grow x, fun a o h hc => x.keep _ _ (r.base a o h hc), fun a h => x.sub a (r.sub a h), fun a h => ?_, by rw [x.cs]; exact r.csp, by rw [x.cs]; exact r.csn, r.cs0⟩
  · obtain ⟨v, e, q⟩ := r.val i t h
    exact ⟨v, e, q.mono x.ext⟩
  · obtain ⟨a, e, ⟨vs, ts, e1, e2, e3⟩, ns, nc, n0⟩ := r.own i t h
    refine ⟨a, e, ⟨vs, ts, e1, x.keep _ _ e2, e3.mono x.ext⟩, fun z => ?_, by rw [x.cs]; exact nc, n0⟩
    rcases x.new a z with z | ⟨z, _⟩
    · exact ns z
    · rw [e2] at z; cases z
  · rcases x.new a h with z | ⟨z, _⟩
    · exact r.new a z
    · exact .inr (r.none0 z)
/-- a new object -/
def Wd.add (ω : Wd) (p : Addr) : Wd := ⟨fun a => ω.S a ∨ a = p, ω.cs⟩
theorem Grow.upd {p : Addr} {o : HO} (h : H p = none) : Grow ω H ω (upd H p o) := ⟨fun a u e => by rw [upd_ne (ne_of_none e h)]; exact e, fun _ z => z, fun _ z => .inl z, rfl⟩
theorem Grow.add {p : Addr} {o : HO} (h : H p = none) : Grow ω H (ω.add p) (L2.upd H p o) := ⟨fun a u e => by rw [upd_ne (ne_of_none e h)]; exact e, fun _ z => .inl z, fun a z => z.imp id fun e => by rw [e]; exact ⟨h, _, upd_same⟩, rfl⟩
end
end Ev
namespace Ev
open PySem L2
/-- an expression's step: all but the cells stays -/
structure ExtE (ω : Wd) (H : Hp) (ω' : Wd) (H' : Hp) : Prop where
  sub : ∀ a, ω.S a → ω'.S a
  cs : ∃ more, ω'.cs = ω.cs ++ more
  keep : ∀ a o, H a = some o → a ∉ ω.cs → H' a = some o
  newS : ∀ a, ω'.S a → ω.S a ∨ H a = none
  newC : ∀ a ∈ ω'.cs, a ∈ ω.cs ∨ H a = none
  there : ∀ a o, H a = some o → ∃ o', H' a = some o'
section
variable {K : PySem.W.Frag} {g : Gh} {ω ω' ω1 ω2 : Wd} {ρ : En} {st st' : Cel} {σ : St} {H H' H1 H2 : Hp}
theorem ExtE.refl (ω : Wd) (H : Hp) : ExtE ω H ω H := ⟨fun _ h => h, ⟨[], by simp⟩, fun _ _ h _ => h, fun _ h => .inl h, fun _ h => .inl h, fun _ o h => ⟨o, h⟩⟩
theorem ExtE.none (x : ExtE ω H ω1 H1) {a : Addr} (h : H1 a = none) : H a = none := by
  cases q : H a with
  | none => rfl
  | some o =>
    obtain ⟨o', e⟩ := x.there a o q
    rw [h] at e; cases e
theorem ExtE.trans (x : ExtE ω H ω1 H1) (y : ExtE ω1 H1 ω2 H2) : ExtE ω H ω2 H2 := by
  obtain ⟨m1, e1⟩ := x.cs
  obtain ⟨m2, e2⟩ := y.cs
  refine ⟨fun a h => y.sub a (x.sub a h), ⟨m1 ++ m2, by rw [e2, e1, List.append_assoc]⟩, fun a o h n => y.keep a o (x.keep a o h n) fun z => ?_, fun a h => ?_, fun a h => ?_, fun a o h => ?_⟩
  · rcases x.newC a z with z | z
    · exact n z
    · rw [h] at z; cases z
  · rcases y.newS a h with z | z
    · exact x.newS a z
    · exact .inr (x.none z)
  · rcases y.newC a h with z | z
    · exact x.newC a z
    · exact .inr (x.none z)
  · obtain ⟨o1, h1⟩ := x.there a o h
    exact y.there a o1 h1
theorem ExtE.ext (x : ExtE ω H ω' H') (c : CelOk K ω st H) : Ext ω H ω' H' := ⟨x.sub, x.cs, fun a o h s => x.keep a o h fun z => by
  rcases s with s | s
  · exact c.out a z s
  · obtain ⟨vs, q⟩ := c.lstAt z
    rw [h] at q; cases q; exact s⟩
theorem Grow.toE (x : Grow ω H ω' H') : ExtE ω H ω' H' := ⟨x.sub, ⟨[], by rw [x.cs]; simp⟩, fun a o h _ => x.keep a o h, fun a h => (x.new a h).imp id (·.1), fun a h => .inl (by rw [x.cs] at h; exact h), fun a o h => ⟨o, x.keep a o h⟩⟩
theorem Rel.extE (r : Rel K g ω ρ st σ H) (x : ExtE ω H ω' H') (c : CelOk K ω' st' H') : Rel K g ω' ρ st' σ H' := by
  have e := x.ext r.cells
  refine ⟨r.len, fun i t h => ?_, fun i t h => ?_, r.sep, c, fun a o h hc => x.keep _ _ (r.base a o h hc) fun z => ?_, fun a h => x.sub a (r.sub a h), fun a h => ?_, ?_, fun a h => ?_, r.cs0⟩
  · obtain ⟨v, e1, q⟩ := r.val i t h
    exact ⟨v, e1, q.mono e⟩
  · obtain ⟨a, e0, ⟨vs, ts, e1, e2, e3⟩, ns, nc, n0⟩ := r.own i t h
    refine ⟨a, e0, ⟨vs, ts, e1, x.keep _ _ e2 nc, e3.mono e⟩, fun z => ?_, fun z => ?_, n0⟩
    · rcases x.newS a z with z | z
      · exact ns z
      · rw [e2] at z; cases z
    · rcases x.newC a z with z | z
      · exact nc z
      · rw [e2] at z; cases z
  · rcases r.csn a z with z | z
    · exact hc z
    · rw [h] at z; cases z
  · rcases x.newS a h with z | z
    · exact r.new a z
    · exact .inr (r.none0 z)
  · obtain ⟨m1, e1⟩ := r.csp
    obtain ⟨m2, e2⟩ := x.cs
    exact ⟨m1 ++ m2, by rw [e2, e1, List.append_assoc]⟩
  · rcases x.newC a h with z | z
    · exact r.csn a z
    · exact .inr (r.none0 z)
/-- a value; where b, also a list that a name owns, to be read -/
def RepM (K : PySem.W.Frag) (b : Bool) (ω : Wd) (H : Hp) (v : V) (t : PV) : Prop := Rep K ω H v t ∨ (b = true ∧ ∃ a, v = .ref a ∧ OwnAt K ω H a t ∧ a ∉ ω.cs)
theorem RepM.of {b : Bool} {v : V} {t : PV} (h : Rep K ω H v t) : RepM K b ω H v t := .inl h
theorem RepM.rep {v : V} {t : PV} (h : RepM K false ω H v t) : Rep K ω H v t := h.elim id fun z => by simp at z
theorem RepM.extE {b : Bool} {v : V} {t : PV} (h : RepM K b ω H v t) (x : ExtE ω H ω' H') (c : CelOk K ω st H) : RepM K b ω' H' v t := by
  rcases h with h | ⟨hb, a, e, ⟨vs, ts, e1, e2, e3⟩, nc⟩
  · exact .inl (h.mono (x.ext c))
  · refine .inr ⟨hb, a, e, ⟨vs, ts, e1, x.keep _ _ e2 nc, e3.mono (x.ext c)⟩, fun z => ?_⟩
    rcases x.newC a z with z | z
    · exact nc z
    · rw [e2] at z; cases z
end
/-! ### readings -/
abbrev Wx := EX → Gh → Wd → En → Cel → St → Hp → Prop
abbrev RX (α β : Type) := Wd → Hp → β → α → Prop
def postG {α β : Type} (P : RX α β) (K : PySem.W.Frag) (g : Gh) (ω : Wd) (ρ : En) (σ : St) (H : Hp) (W : Wx) (r : R α) (Q : β → Hp → Prop) : Prop := match r with
  | .ok t st' => ∀ x H' ω', ExtE ω H ω' H' → CelOk K ω' st' H' → P ω' H' x t → Q x H'
  | .exc e st' => ∀ H' ω', ExtE ω H ω' H' → CelOk K ω' st' H' → W e g ω' ρ st' σ H'
  | .bad => False
def tG {α β : Type} (P : RX α β) (K : PySem.W.Frag) (W : Wx) (f : En → Cel → R α) : St → Hp → (β → Hp → Prop) → Prop := fun σ H Q => ∃ g ω ρ st, Rel K g ω ρ st σ H ∧ postG P K g ω ρ σ H W (f ρ st) Q
/-- an expression, an argument list, a test, a slice's part -/
abbrev tv (K : PySem.W.Frag) (b : Bool) (W : Wx) (f : En → Cel → R PV) : TE := tG (RepM K b) K W f
abbrev tvs (K : PySem.W.Frag) (W : Wx) (f : En → Cel → R (List PV)) : TA := tG (RepL K) K W f
def RBB : RX Bool Bool := fun _ _ x t => t = x
abbrev tvbb (K : PySem.W.Frag) (W : Wx) (f : En → Cel → R Bool) : TT := tG RBB K W f
def RO : RX (Option Int) (Option Int) := fun _ _ x t => t = x
abbrev tvo (K : PySem.W.Frag) (W : Wx) (f : En → Cel → R (Option Int)) : TO := tG RO K W f
section
variable {K : PySem.W.Frag} {g : Gh} {ω ω' : Wd} {ρ : En} {st st' : Cel} {σ : St} {H H' : Hp} {W : Wx}
theorem postG.ext {α β : Type} {P : RX α β} {r : R α} {Q : β → Hp → Prop} (h : postG P K g ω ρ σ H W r Q) (x : ExtE ω H ω' H') : postG P K g ω' ρ σ H' W r Q := by
  cases r with
  | ok t s => exact fun y H2 ω2 x2 c p => h y H2 ω2 (x.trans x2) c p
  | exc e s => exact fun H2 ω2 x2 c => h H2 ω2 (x.trans x2) c
  | bad => exact h
theorem bindG {α α2 β β2 : Type} {P : RX α β} {P2 : RX α2 β2} {f : En → Cel → R α} {k : α → Cel → R α2} {Q : β2 → Hp → Prop} (r : Rel K g ω ρ st σ H) (h : postG P2 K g ω ρ σ H W ((f ρ st).bind k) Q) :
    tG P K W f σ H (fun x H1 => ∃ ω1 st1 t, ExtE ω H ω1 H1 ∧ Rel K g ω1 ρ st1 σ H1 ∧ P ω1 H1 x t ∧ postG P2 K g ω1 ρ σ H1 W (k t st1) Q) := by
  refine ⟨g, ω, ρ, st, r, ?_⟩
  cases e : f ρ st with
  | ok t s =>
    rw [e] at h
    exact fun x H1 ω1 x1 c p => ⟨ω1, s, t, x1, r.extE x1 c, p, postG.ext h x1⟩
  | exc x s => rw [e] at h; exact h
  | bad => rw [e] at h; exact h
theorem tG.mono {α β : Type} {P : RX α β} {f : En → Cel → R α} {Q Q' : β → Hp → Prop} (h : tG P K W f σ H Q) (i : ∀ x H, Q x H → Q' x H) : tG P K W f σ H Q' := by
  obtain ⟨g, ω, ρ, st, r, h⟩ := h
  refine ⟨g, ω, ρ, st, r, ?_⟩
  cases e : f ρ st with
  | ok t s => rw [e] at h; exact fun x H' ω' y c p => i _ _ (h x H' ω' y c p)
  | exc x s => rw [e] at h; exact h
  | bad => rw [e] at h; exact h
/-- from a plain answer -/
theorem postOk {α β : Type} {P : RX α β} {t : α} {Q : β → Hp → Prop} (r : Rel K g ω ρ st σ H) (h : postG P K g ω ρ σ H W (.ok t st) Q) {x : β} (p : P ω H x t) : Q x H := h x H ω (ExtE.refl ω H) r.cells p
theorem postGrow {α β : Type} {P : RX α β} {t : α} {Q : β → Hp → Prop} (r : Rel K g ω ρ st σ H) (h : postG P K g ω ρ σ H W (.ok t st) Q) (w : Grow ω H ω' H') {x : β} (p : P ω' H' x t) : Q x H' := h x H' ω' w.toE (r.cells.grow w) p
end
theorem wPE {X : Cx} {e : Expr} {t t' : TE} (h : PE X e t) (i : ∀ σ H Q, t' σ H Q → t σ H Q) : PE X e t' := ⟨fun pins s σ H Q I q => h.run pins s σ H Q I (i _ _ _ q)⟩
theorem wPT {X : Cx} {e : Expr} {t t' : TT} (h : PT X e t) (i : ∀ σ H Q, t' σ H Q → t σ H Q) : PT X e t' := ⟨fun pins s σ H Q I q => h.run pins s σ H Q I (i _ _ _ q)⟩
theorem wPA {X : Cx} {e : List Expr} {t t' : TA} (h : PA X e t) (i : ∀ σ H Q, t' σ H Q → t σ H Q) : PA X e t' := ⟨fun pos pins s σ H Q I q => h.run pos pins s σ H Q I (i _ _ _ q)⟩
theorem wPO {X : Cx} {e : Option Expr} {t t' : TO} (h : PO X e t) (i : ∀ σ H Q, t' σ H Q → t σ H Q) : PO X e t' := ⟨fun pins s σ H Q I q => h.run pins s σ H Q I (i _ _ _ q)⟩
theorem wPTs {X : Cx} {e : List Expr} {t t' : TT} (h : PTs X e t) (i : ∀ σ H Q, t' σ H Q → t σ H Q) : PTs X e t' := ⟨fun pins s σ H Q I q => h.run pins s σ H Q I (i _ _ _ q)⟩
/-! ### one operand, two operands: by values -/
def VR1 (K : PySem.W.Frag) (b : Bool) (r : V → Hp → VK → Prop) (v : Cel → PV → Option PV) : Prop := ∀ (st : Cel) (x : V) (t z : PV) (ω : Wd) (H : Hp) (Q : VK), CelOk K ω st H → RepM K b ω H x t → v st t = some z →
  (∀ y H' ω', Grow ω H ω' H' → Rep K ω' H' y z → Q y H') → r x H Q
def VR2 (K : PySem.W.Frag) (b b' : Bool) (r : R2) (v : Cel → PV → PV → Option PV) : Prop := ∀ (st : Cel) (x y : V) (t u z : PV) (ω : Wd) (H : Hp) (Q : VK), CelOk K ω st H → RepM K b ω H x t → RepM K b' ω H y u → v st t u = some z →
  (∀ y H' ω', Grow ω H ω' H' → Rep K ω' H' y z → Q y H') → r x y H Q
section
variable {X : Cx} {W : Wx} {e a b : Expr}
theorem of_post {K : PySem.W.Frag} {g : Gh} {ω : Wd} {ρ : En} {st : Cel} {σ : St} {H : Hp} {o : Option PV} {Q : VK} {b : Bool} (r : Rel K g ω ρ st σ H) (h : postG (RepM K b) K g ω ρ σ H W (R.of o st) Q) :
    ∃ z, o = some z ∧ ∀ y H' ω', Grow ω H ω' H' → Rep K ω' H' y z → Q y H' := by
  cases o with
  | none => exact h.elim
  | some z => exact ⟨z, rfl, fun y H' ω' w p => postGrow r h w (.inl p)⟩
theorem se1 {f : En → Cel → R PV} {r : V → Hp → VK → Prop} {v : Cel → PV → Option PV} {ba bz : Bool} (hpe : ∀ ta, PE X a ta → PE X e (tUn r ta)) (ha : PE X a (tv X.K ba W f)) (hv : VR1 X.K ba r v) :
    PE X e (tv X.K bz W fun ρ st => (f ρ st).bind fun x st => R.of (v st x) st) := by
  refine wPE (hpe _ ha) fun σ H Q ⟨g, ω, ρ, st, rel, h⟩ => (bindG (P := RepM X.K ba) rel h).mono fun x H1 ⟨ω1, st1, t, x1, rel1, p, q⟩ => ?_
  obtain ⟨z, ez, qz⟩ := of_post rel1 q
  exact hv st1 x t z ω1 H1 Q rel1.cells p ez qz
theorem se2 {f f' : En → Cel → R PV} {r : R2} {v : Cel → PV → PV → Option PV} {ba bb bz : Bool} (hpe : ∀ ta tb, PE X a ta → PE X b tb → PE X e (tOp r ta tb)) (ha : PE X a (tv X.K ba W f)) (hb : PE X b (tv X.K bb W f')) (hv : VR2 X.K ba bb r v) :
    PE X e (tv X.K bz W fun ρ st => (f ρ st).bind fun x st => (f' ρ st).bind fun y st => R.of (v st x y) st) := by
  refine wPE (hpe _ _ ha hb) fun σ H Q ⟨g, ω, ρ, st, rel, h⟩ => (bindG (P := RepM X.K ba) rel h).mono fun x H1 ⟨ω1, st1, t, x1, rel1, p, q⟩ => ?_
  refine (bindG (P := RepM X.K bb) (f := f') rel1 q).mono fun y H2 ⟨ω2, st2, u, x2, rel2, p2, q2⟩ => ?_
  obtain ⟨z, ez, qz⟩ := of_post rel2 q2
  exact hv st2 x y t u z ω2 H2 Q rel2.cells (p.extE x2 rel1.cells) p2 ez qz
/-- and, or, a if t else b -/
theorem se_var {i : Nat} {bz : Bool} (h : PE X e (tVar i)) : PE X e (tv X.K bz W fun ρ st => match ρ[i]? with
    | some (Slot.val v) => R.ok v st
    | _ => .bad) := by
  refine wPE h fun σ H Q ⟨g, ω, ρ, st, rel, q⟩ => ?_
  dsimp only at q
  cases e1 : ρ[i]? with
  | none => rw [e1] at q; exact q.elim
  | some s =>
    cases s with
    | emp => rw [e1] at q; exact q.elim
    | own t => rw [e1] at q; exact q.elim
    | val t =>
      rw [e1] at q
      obtain ⟨v, hv, rv⟩ := rel.val i t e1
      exact ⟨v, hv, postOk rel q (.inl rv)⟩
theorem se_bor {i : Nat} (h : PE X e (tVar i)) : PE X e (tv X.K true W fun ρ st => match ρ[i]? with
    | some (Slot.own v) => R.ok v st
    | some (Slot.val v) => R.ok v st
    | _ => .bad) := by
  refine wPE h fun σ H Q ⟨g, ω, ρ, st, rel, q⟩ => ?_
  dsimp only at q
  cases e1 : ρ[i]? with
  | none => rw [e1] at q; exact q.elim
  | some s =>
    cases s with
    | emp => rw [e1] at q; exact q.elim
    | own t =>
      rw [e1] at q
      obtain ⟨a, hv, rv, ns, nc, n0⟩ := rel.own i t e1
      exact ⟨.ref a, hv, postOk rel q (.inr ⟨rfl, a, rfl, rv, nc⟩)⟩
    | val t =>
      rw [e1] at q
      obtain ⟨v, hv, rv⟩ := rel.val i t e1
      exact ⟨v, hv, postOk rel q (.inl rv)⟩
theorem se_c {v : V} {t : PV} {bz : Bool} (hv : ∀ ω H, Rep X.K ω H v t) (h : PE X e (tC v)) : PE X e (tv X.K bz W fun _ st => .ok t st) :=
  wPE h fun σ H Q ⟨g, ω, ρ, st, rel, q⟩ => postOk rel q (.inl (hv ω H))
theorem se_and {f f' : En → Cel → R PV} {bz : Bool} (hpe : ∀ ta tb, PE X a ta → PE X b tb → PE X e (tAndV ta tb)) (ha : PE X a (tv X.K false W f)) (hb : PE X b (tv X.K bz W f')) :
    PE X e (tv X.K bz W fun ρ st => (f ρ st).bind fun x st => match x with
      | .bl true => f' ρ st
      | .bl false => .ok (.bl false) st
      | _ => .bad) := by
  refine wPE (hpe _ _ ha hb) fun σ H Q ⟨g, ω, ρ, st, rel, h⟩ => (bindG (P := RepM X.K false) rel h).mono fun x H1 ⟨ω1, st1, t, x1, rel1, p, q⟩ => ?_
  cases p.rep with
  | bl c =>
    cases c with
    | true => exact ⟨true, rfl, ⟨g, ω1, ρ, st1, rel1, q⟩⟩
    | false => exact ⟨false, rfl, postOk rel1 q (.inl (.bl false))⟩
  | _ => exact q.elim
theorem se_or {f f' : En → Cel → R PV} {bz : Bool} (hpe : ∀ ta tb, PE X a ta → PE X b tb → PE X e (tOrV ta tb)) (ha : PE X a (tv X.K false W f)) (hb : PE X b (tv X.K bz W f')) :
    PE X e (tv X.K bz W fun ρ st => (f ρ st).bind fun x st => match x with
      | .bl true => .ok (.bl true) st
      | .bl false => f' ρ st
      | _ => .bad) := by
  refine wPE (hpe _ _ ha hb) fun σ H Q ⟨g, ω, ρ, st, rel, h⟩ => (bindG (P := RepM X.K false) rel h).mono fun x H1 ⟨ω1, st1, t, x1, rel1, p, q⟩ => ?_
  cases p.rep with
  | bl c =>
    cases c with
    | true => exact ⟨true, rfl, postOk rel1 q (.inl (.bl true))⟩
    | false => exact ⟨false, rfl, ⟨g, ω1, ρ, st1, rel1, q⟩⟩
  | _ => exact q.elim
/-- a test's answer -/
def asB (f : En → Cel → R PV) : En → Cel → R Bool := fun ρ st => (f ρ st).bind fun x st => R.of (blV x) st
theorem R.bind_asB {α : Type} (r : R PV) (k1 k2 : Cel → R α) : r.bind (fun x st => match x with
    | .bl true => k1 st
    | .bl false => k2 st
    | _ => .bad) = (r.bind fun x st => R.of (blV x) st).bind fun b st => if b then k1 st else k2 st := by
  cases r with
  | ok x st => cases x <;> try rfl
               rename_i b; cases b <;> rfl
  | exc e st => rfl
  | bad => rfl
theorem se_ite {c : Expr} {ft f f' : En → Cel → R PV} {bz : Bool} (hpe : ∀ tt ta tb, PT X c tt → PE X a ta → PE X b tb → PE X e (tIf tt ta tb)) (hc : PT X c (tvbb X.K W (asB ft))) (ha : PE X a (tv X.K bz W f)) (hb : PE X b (tv X.K bz W f')) :
    PE X e (tv X.K bz W fun ρ st => (ft ρ st).bind fun x st => match x with
      | .bl true => f ρ st
      | .bl false => f' ρ st
      | _ => .bad) := by
  refine wPE (hpe _ _ _ hc ha hb) fun σ H Q ⟨g, ω, ρ, st, rel, h⟩ => ?_
  dsimp only at h
  rw [R.bind_asB (ft ρ st) (fun st => f ρ st) (fun st => f' ρ st)] at h
  refine (bindG (P := RBB) (f := asB ft) rel h).mono fun x H1 ⟨ω1, st1, t, x1, rel1, p, q⟩ => ?_
  cases (show t = x from p)
  cases x with
  | true => exact ⟨g, ω1, ρ, st1, rel1, q⟩
  | false => exact ⟨g, ω1, ρ, st1, rel1, q⟩
/-! ### argument lists -/
theorem sa_nil : PA X [] (tvs X.K W fun _ st => .ok [] st) := wPA pa_nil fun σ H Q ⟨g, ω, ρ, st, rel, q⟩ => postOk rel q .nil
theorem sa_cons {es : List Expr} {f : En → Cel → R PV} {f' : En → Cel → R (List PV)} (hpa : ∀ ta tb, PE X a ta → PA X es tb → PA X (a :: es) (tCons ta tb)) (ha : PE X a (tv X.K false W f)) (hb : PA X es (tvs X.K W f')) :
    PA X (a :: es) (tvs X.K W fun ρ st => (f ρ st).bind fun x st => (f' ρ st).bind fun xs st => .ok (x :: xs) st) := by
  refine wPA (hpa _ _ ha hb) fun σ H Q ⟨g, ω, ρ, st, rel, h⟩ => (bindG (P := RepM X.K false) rel h).mono fun x H1 ⟨ω1, st1, t, x1, rel1, p, q⟩ => ?_
  refine (bindG (P := RepL X.K) (f := f') rel1 q).mono fun y H2 ⟨ω2, st2, u, x2, rel2, p2, q2⟩ => ?_
  exact postOk rel2 q2 (.cons (p.extE x2 rel1.cells).rep p2)
theorem sa_star {es : List Expr} {ae : Expr} {f : En → Cel → R PV} {f' : En → Cel → R (List PV)} (hpa : ∀ ta tb, PE X a ta → PA X es tb → PA X (ae :: es) (StX.tStar X.K ta tb)) (ha : PE X a (tv X.K true W f)) (hb : PA X es (tvs X.K W f')) :
    PA X (ae :: es) (tvs X.K W fun ρ st => (f ρ st).bind fun x st => match x with
      | .tup ys => (f' ρ st).bind fun xs st => .ok (ys ++ xs) st
      | .lst ys => (f' ρ st).bind fun xs st => .ok (ys ++ xs) st
      | _ => .bad) := by
  refine wPA (hpa _ _ ha hb) fun σ H Q ⟨g, ω, ρ, st, rel, h⟩ => (bindG (P := RepM X.K true) rel h).mono fun x H1 ⟨ω1, st1, t, x1, rel1, p, q⟩ => ?_
  rcases p with p | ⟨_, a, e1, ⟨vs, ts, e2, e3, e4⟩, nc⟩
  · cases p with
    | tup hs hr =>
      refine ⟨_, _, rfl, .inl hs, (bindG (P := RepL X.K) (f := f') rel1 q).mono fun y H2 ⟨ω2, st2, u, x2, rel2, p2, q2⟩ => ?_⟩
      exact postOk rel2 q2 ((hr.mono (x2.ext rel1.cells)).append p2)
    | lst hs hh hr =>
      refine ⟨_, _, rfl, .inr (.inl (.inl hh)), (bindG (P := RepL X.K) (f := f') rel1 q).mono fun y H2 ⟨ω2, st2, u, x2, rel2, p2, q2⟩ => ?_⟩
      exact postOk rel2 q2 ((hr.mono (x2.ext rel1.cells)).append p2)
    | _ => exact q.elim
  · subst e1 e2
    refine ⟨_, _, rfl, .inr (.inl (.inl e3)), (bindG (P := RepL X.K) (f := f') rel1 q).mono fun y H2 ⟨ω2, st2, u, x2, rel2, p2, q2⟩ => ?_⟩
    exact postOk rel2 q2 ((e4.mono (x2.ext rel1.cells)).append p2)
theorem szOk_le {n : Nat} (h : szOk n = true) : n ≤ sizeLine := of_decide_eq_true h
theorem se_tup {es : List Expr} {f : En → Cel → R (List PV)} {bz : Bool} (hpe : ∀ ta, PA X es ta → PE X e (tTup ta)) (ha : PA X es (tvs X.K W f)) :
    PE X e (tv X.K bz W fun ρ st => (f ρ st).bind fun xs st => if szOk xs.length then .ok (.tup xs) st else .bad) := by
  refine wPE (hpe _ ha) fun σ H Q ⟨g, ω, ρ, st, rel, h⟩ => (bindG (P := RepL X.K) rel h).mono fun xs H1 ⟨ω1, st1, ts, x1, rel1, p, q⟩ => ?_
  by_cases hz : szOk ts.length = true
  · rw [if_pos hz] at q
    refine ⟨by rw [p.length]; exact szOk_le hz, fun p' hp => ?_⟩
    exact postGrow rel1 q (Grow.upd hp) (.inl (.tup (.inl (.inl upd_same)) (p.mono (Grow.upd hp).ext)))
  · rw [if_neg hz] at q; exact q.elim
end
end Ev
set_option maxHeartbeats 4000000
namespace Ev
open PySem PySem.Spec PyProof.Rows L2
/-! tuple * 1: the tuple itself -/
theorem mul_one_meets (l : Addr) (its : Array Value) (n : Nat) (dd : Option Addr) (sl : Array (Option Value)) (u : Tok) :
    Meets (Builtin.«tuple.__mul__» ⟨[.ref l, .int 1 u], []⟩)
      (fun _ R s => s.heap.get? l = some { cls := .type "tuple", dict := dd, data := .seq its n, slots := sl } ∧ R (.ok (.ret (Value.ref l))) s) :=
  .of_wp fun prog w A R s h => by
    obtain ⟨hp, g, d, tk, os⟩ := s
    obtain ⟨hl, h⟩ := h
    have f1 := AutoSeq1.idx_int
    have c1 : (its.isEmpty || (1 : Int) == 1) = true := by simp
    wp_walk using wpAny_loadPart' hl
    exact ⟨_, rfl, h⟩
def rRepT1 (K : PySem.W.Frag) : R2 := fun x y H Q => ∃ l xs, x = .ref l ∧ y = .int 1 ∧ SqT K H l xs ∧ Q (.ref l) H
theorem op_repT1 {X : Cx} : OpR X (binaryOp .Mult) (rRepT1 X.K) := by
  intro pins s σ H x y v u Q I rx ry ⟨l, xs, ex, ey, hT, q⟩
  subst ex ey
  obtain ⟨t, rfl⟩ := ry
  cases rx
  obtain ⟨its, r, ⟨⟨cls, dd, data, sl⟩, ho, hc, n, hd⟩, hs⟩ := I.tuple hT
  obtain rfl : cls = .type "tuple" := hc
  obtain rfl : data = .seq its.toArray n := hd
  have step : wpAny (model X.prog X.w) X.A (call (.builtin "tuple.__mul__") [.ref l, .int 1 t]) (EP X pins σ Q) X.xe s :=
    call_meets F.slot_tuple_mul ⟨_, ho, rfl⟩ F.entry_tuple_mul (F.args_tuple_mul_2 _ _) (mul_one_meets l its.toArray n dd sl t) ⟨ho, ⟨.ref l, H, I, rfl, q⟩⟩
  refine wpAny_binaryOp_repeat_ref (T := "tuple") (U := "int") (by decide) ⟨_, ho, rfl⟩ (fun s' => typeIs_int s' 1 t) noFill_tuple_mul F.fills_int_mul F.slot_int_rmul repeat_tuple F.slot_int_index.lookup ?_
  exact call_meets F.slot_int_rmul (typeIs_int s 1 t) F.entry_int_rmul (F.args_int_rmul_2 _ _) (int_rmul_tuple 1 t l its.toArray n dd sl) ⟨ho, rfl, ⟨_, ho, rfl⟩, step⟩
end Ev
namespace Ev
open PySem L2
section
variable {K : PySem.W.Frag} {ω : Wd} {H : Hp} {x y : V} {ts us : List PV} {b : Bool}
theorem RepM.lst (h : RepM K b ω H x (.lst ts)) : ∃ a vs, x = .ref a ∧ H a = some (.lst vs) ∧ RepL K ω H vs ts := by
  rcases h with h | ⟨_, a, e, ⟨vs, ts', e1, e2, e3⟩, _⟩
  · cases h with
    | lst s h r => exact ⟨_, _, rfl, h, r⟩
  · cases e1; exact ⟨a, vs, e, e2, e3⟩
theorem RepM.tup (h : RepM K b ω H x (.tup ts)) : ∃ a vs, x = .ref a ∧ SqT K H a vs ∧ RepL K ω H vs ts := by
  rcases h with h | ⟨_, a, e, ⟨vs, ts', e1, e2, e3⟩, _⟩
  · cases h with
    | tup h r => exact ⟨_, _, rfl, h, r⟩
  · cases e1
theorem RepM.rol (h : RepM K b ω H x (.rol ts)) : ∃ a vs, x = .ref a ∧ SqL K H a vs ∧ RepL K ω H vs ts := by
  rcases h with h | ⟨_, a, e, ⟨vs, ts', e1, e2, e3⟩, _⟩
  · cases h with
    | rol h r => exact ⟨_, _, rfl, h.sq, r⟩
  · cases e1
theorem RepM.int {i : Int} (h : RepM K b ω H x (.int i)) : x = .int i := by
  rcases h with h | ⟨_, a, e, ⟨vs, ts', e1, e2, e3⟩, _⟩
  · cases h; rfl
  · cases e1
theorem RepM.bl {i : Bool} (h : RepM K b ω H x (.bl i)) : x = .bl i := by
  rcases h with h | ⟨_, a, e, ⟨vs, ts', e1, e2, e3⟩, _⟩
  · cases h; rfl
  · cases e1
theorem RepM.str {i : Str} (h : RepM K b ω H x (.str i)) : x = .str i := by
  rcases h with h | ⟨_, a, e, ⟨vs, ts', e1, e2, e3⟩, _⟩
  · cases h; rfl
  · cases e1
theorem RepM.cell {k : Nat} (h : RepM K b ω H x (.cell k)) : ∃ a, x = .ref a ∧ ω.cs[k]? = some a := by
  rcases h with h | ⟨_, a, e, ⟨vs, ts', e1, e2, e3⟩, _⟩
  · cases h with
    | cell h => exact ⟨_, rfl, h⟩
  · cases e1
theorem RepM.dp {t : PV} {d : PyData} (h : RepM K b ω H x t) (e : t.data = some d) : Dp K H x d := by
  rcases h with h | ⟨_, a, e0, ⟨vs, ts', e1, e2, e3⟩, _⟩
  · exact h.dp e
  · subst e0 e1
    unfold PV.data at e
    cases q : PV.dataL ts' with
    | none => rw [q] at e; cases e
    | some ds => rw [q] at e; cases e; exact .lst (.inl (.inl e2)) (e3.dp q)
theorem RepL.atI {vs : List V} {i : Int} {t : PV} (r : RepL K ω H vs ts) (h : atI ts i = some t) : ∃ v, atI vs i = some v ∧ Rep K ω H v t := by
  unfold L2.atI at h ⊢
  rw [r.length]
  cases q : ixN ts.length i with
  | none => rw [q] at h; cases h
  | some j => rw [q] at h; exact r.get h
/-- a new list, a new tuple -/
theorem newTup {vs : List V} {Q : VK} (r : RepL K ω H vs ts) (h : ∀ y H' ω', Grow ω H ω' H' → Rep K ω' H' y (.tup ts) → Q y H') : ∀ p, H p = none → Q (.ref p) (upd H p (.tup vs)) :=
  fun p hp => h _ _ ω (Grow.upd hp) (.tup (.inl (.inl upd_same)) (r.mono (Grow.upd hp).ext))
theorem newLst {vs : List V} {Q : VK} (r : RepL K ω H vs ts) (h : ∀ y H' ω', Grow ω H ω' H' → Rep K ω' H' y (.lst ts) → Q y H') : ∀ p, H p = none → Q (.ref p) (upd H p (.lst vs)) :=
  fun p hp => h _ _ (ω.add p) (Grow.add hp) (.lst (.inr rfl) upd_same (r.mono (Grow.add hp).ext))
end
section
variable {K : PySem.W.Frag} {b b' : Bool}
theorem op_add_bi {X : Cx} : OpR X (binaryOp .Add) (fun x y H Q => ∃ (k : Bool) (j : Int), x = .bl k ∧ y = .int j ∧ Q (.int ((if k then 1 else 0) + j)) H) := by
  intro pins s σ H x y v u Q I rx ry h
  obtain ⟨k, j, rfl, rfl, q⟩ := h
  obtain ⟨t, rfl⟩ := ry
  cases rx
  exact PySem.IntBool.add_bool_int ⟨.int _, H, I.tok _, ⟨_, rfl⟩, q⟩
theorem foldl_size {α : Type} : ∀ (n : Nat) (x acc : Array α), ((List.replicate n x).foldl (· ++ ·) acc).size = acc.size + n * x.size
  | 0, x, acc => by simp
  | n + 1, x, acc => by
    rw [List.replicate_succ, List.foldl_cons, foldl_size n x (acc ++ x), Array.size_append, Nat.add_mul]
    omega
theorem op_repS {X : Cx} : OpR X (binaryOp .Mult) (fun x y H Q => ∃ (z : Str) (k : Int), x = .str z ∧ y = .int k ∧ 2 ≤ k ∧ k ≤ 100000 ∧ z.length ≠ 0 ∧ z.length * k.toNat ≤ sizeLine ∧ Q (.str (repS k.toNat z)) H) := by
  intro pins s σ H x y v u Q I rx ry h
  obtain ⟨z, k, rfl, rfl, h1, h2, h3, h4, q⟩ := h
  obtain ⟨t, rfl⟩ := rx
  obtain ⟨t', rfl⟩ := ry
  have hz : z.length ≤ z.length * k.toNat := Nat.le_mul_of_pos_right _ (by omega)
  have hs : sizeLine < 2 ^ 40 := by rw [sizeLine_eq]; decide
  refine P.mul_str (by
    rw [decide_eq_false (by omega), decide_eq_false (by omega)]; rfl) (fun _ _ => ?_) (fun _ _ => ?_) ?_
  · intro hh
    have e1 : (2 ^ 63 - 1 : Int) / 100000 ≤ (2 ^ 63 - 1) / k := Int.le_ediv_of_mul_le (by omega) (by
      have : (2 ^ 63 - 1 : Int) / 100000 * k ≤ (2 ^ 63 - 1 : Int) / 100000 * 100000 := Int.mul_le_mul_of_nonneg_left h2 (by decide)
      have e2 : (2 ^ 63 - 1 : Int) / 100000 * 100000 ≤ 2 ^ 63 - 1 := by decide
      omega)
    have e3 : (2 ^ 46 : Int) ≤ (2 ^ 63 - 1) / 100000 := by decide
    have e4 : (z.length : Int) < 2 ^ 40 := by
      have : z.length < 2 ^ 40 := by omega
      exact_mod_cast this
    omega
  · exact decide_eq_false (by omega)
  · rw [if_neg (by omega), if_neg (by
      intro hh
      rw [Bool.or_eq_true] at hh
      rcases hh with hh | hh
      · have := eq_of_beq hh; omega
      · exact h3 (eq_of_beq hh))]
    exact ⟨by show (repS k.toNat z).length ≤ _; show ((List.replicate k.toNat z.cps).foldl (· ++ ·) #[]).size ≤ _; rw [foldl_size, Nat.mul_comm]; show 0 + z.length * k.toNat ≤ _; omega, ⟨.str _, H, I.tok _, ⟨_, rfl⟩, q⟩⟩
abbrev rAddS : R2 := fun x y H Q => ∃ i j, x = .str i ∧ y = .str j ∧ i.length + j.length ≤ sizeLine ∧ Q (.str (i ++ j)) H
abbrev rAddV (K : PySem.W.Frag) : R2 := fun x y H Q => rI0 (fun i j => .int (i + j)) x y H Q ∨ (rCat x y H Q ∨ (rCatA K x y H Q ∨ (rAddS x y H Q ∨ ∃ (k : Bool) (j : Int), x = .bl k ∧ y = .int j ∧ Q (.int ((if k then 1 else 0) + j)) H)))
abbrev rMulV (K : PySem.W.Frag) : R2 := fun x y H Q => rI CMul (fun i j => .int (i * j)) x y H Q ∨ (rRep x y H Q ∨ (rRepT K x y H Q ∨ (rRepT1 K x y H Q ∨ ∃ (z : Str) (k : Int), x = .str z ∧ y = .int k ∧ 2 ≤ k ∧ k ≤ 100000 ∧ z.length ≠ 0 ∧ z.length * k.toNat ≤ sizeLine ∧ Q (.str (repS k.toNat z)) H)))
def rBin (K : PySem.W.Frag) : BOp → R2
  | .add => rAddV K
  | .sub => rI0 fun i j => .int (i - j)
  | .mul => rMulV K
  | .fdiv => rI CDivN fun i j => .int (i.fdiv j)
  | .mod => rI (fun _ j => j ≠ 0) fun i j => .int (i.fmod j)
  | .pow => rI CPow fun i j => .int (i ^ j.toNat)
def opB : BOp → Operator
  | .add => .Add | .sub => .Sub | .mul => .Mult | .fdiv => .FloorDiv | .mod => .Mod | .pow => .Pow
theorem opr_bin {X : Cx} : ∀ op, OpR X (binaryOp (opB op)) (rBin X.K op)
  | .add => op_add.or (op_cat.or (op_catA.or (op_add_str.or op_add_bi)))
  | .sub => op_sub
  | .mul => op_mul.or (op_rep.or (op_repT.or (op_repT1.or op_repS)))
  | .fdiv => op_fdivN
  | .mod => op_modN
  | .pow => op_pow
theorem vr_bin (op : BOp) : VR2 K b b' (rBin K op) (fun _ => binV op) := by
  intro st x y t u z ω H Q c hx hy hv q
  dsimp only at hv
  unfold binV at hv
  split at hv
  · cases hv
    exact .inl ⟨_, _, hx.int, hy.int, q _ _ ω (Grow.refl ω H) (.int _)⟩
  · rename_i xs ys
    split at hv
    · rename_i hz
      cases hv
      exact .inr (.inr (.inr (.inl ⟨_, _, hx.str, hy.str, szOk_le hz, q _ _ ω (Grow.refl ω H) (.str _)⟩)))
    · cases hv
  · rename_i xs ys
    split at hv
    · rename_i hz
      cases hv
      obtain ⟨a, vs, rfl, ha, ra⟩ := hx.lst
      obtain ⟨a', vs', rfl, ha', ra'⟩ := hy.lst
      exact .inr (.inl ⟨a, a', vs, vs', rfl, rfl, ha, ha', by rw [ra.length, ra'.length]; exact szOk_le hz, newLst (ra.append ra') q⟩)
    · cases hv
  · rename_i xs ys
    split at hv
    · rename_i hz
      cases hv
      obtain ⟨a, vs, rfl, ha, ra⟩ := hx.tup
      obtain ⟨a', vs', rfl, ha', ra'⟩ := hy.tup
      refine .inr (.inr (.inl ⟨a, a', vs, vs', rfl, rfl, ha, ha', by rw [ra.length, ra'.length]; exact szOk_le hz, fun e => ?_, fun _ e => ?_, fun _ _ => newTup (ra.append ra') q⟩))
      · subst e; cases ra; exact q _ _ ω (Grow.refl ω H) (.tup ha' ra')
      · subst e; cases ra'; rw [List.append_nil] at q; exact q _ _ ω (Grow.refl ω H) (.tup ha ra)
    · cases hv
  · cases hv
    exact ⟨_, _, hx.int, hy.int, q _ _ ω (Grow.refl ω H) (.int _)⟩
  · split at hv
    · rename_i hz
      cases hv
      refine .inl ⟨_, _, hx.int, hy.int, ?_, q _ _ ω (Grow.refl ω H) (.int _)⟩
      simpa [CMul] using hz
    · cases hv
  · rename_i xs k
    split at hv
    · rename_i hz
      cases hv
      obtain ⟨a, vs, rfl, ha, ra⟩ := hx.lst
      simp only [Bool.and_eq_true, decide_eq_true_eq] at hz
      exact .inr (.inl ⟨a, k, vs, rfl, hy.int, ha, hz.1.1, hz.1.2, by rw [ra.length]; exact szOk_le hz.2, newLst (ra.flat _) q⟩)
    · cases hv
  · rename_i xs k
    split at hv
    · rename_i hz
      cases hv
      obtain ⟨a, vs, rfl, ha, ra⟩ := hx.tup
      simp only [Bool.and_eq_true, decide_eq_true_eq, Bool.not_eq_true'] at hz
      by_cases hk : k = 1
      · subst hk
        refine .inr (.inr (.inr (.inl ⟨a, vs, rfl, hy.int, ha, q _ _ ω (Grow.refl ω H) (.tup ha ?_)⟩)))
        simpa using ra
      · refine .inr (.inr (.inl ⟨a, k, vs, rfl, hy.int, ha, ?_, by have := hz.1.1.1; omega, hz.1.1.2, by rw [ra.length]; exact hz.1.2, newTup (ra.flat _) q⟩))
        rintro rfl
        cases ra
        simp at hz
    · cases hv
  · split at hv
    · rename_i hz
      cases hv
      exact ⟨_, _, hx.int, hy.int, hz, q _ _ ω (Grow.refl ω H) (.int _)⟩
    · cases hv
  · split at hv
    · rename_i hz
      cases hv
      exact ⟨_, _, hx.int, hy.int, hz, q _ _ ω (Grow.refl ω H) (.int _)⟩
    · cases hv
  · split at hv
    · rename_i hz
      cases hv
      exact ⟨_, _, hx.int, hy.int, hz, q _ _ ω (Grow.refl ω H) (.int _)⟩
    · cases hv
  · cases hv
    exact .inr (.inr (.inr (.inr ⟨_, _, hx.bl, hy.int, q _ _ ω (Grow.refl ω H) (.int _)⟩)))
  · split at hv
    · rename_i hz
      cases hv
      simp only [Bool.and_eq_true, decide_eq_true_eq] at hz
      exact .inr (.inr (.inr (.inr ⟨_, _, hx.str, hy.int, hz.1.1.1, hz.1.1.2, hz.1.2, szOk_le hz.2, q _ _ ω (Grow.refl ω H) (.str _)⟩)))
    · cases hv
  · cases hv
/-! comparisons -/
abbrev rIsN' : R2 := fun x y H Q => y = .non ∧ Q (.bl (decide (x = .non))) H
abbrev rNotN' : R2 := fun x y H Q => y = .non ∧ Q (.bl (!decide (x = .non))) H
abbrev rLtS : R2 := fun x y H Q => ∃ i j, x = .str i ∧ y = .str j ∧ Q (.bl (decide (i.cps.toList < j.cps.toList))) H
abbrev rLeS : R2 := fun x y H Q => ∃ i j, x = .str i ∧ y = .str j ∧ Q (.bl (!decide (j.cps.toList < i.cps.toList))) H
abbrev rInC : R2 := fun x y H Q => ∃ (c : Nat) (z : Str), x = .str ⟨#[c]⟩ ∧ y = .str z ∧ Q (.bl (decide (c ∈ z.cps.toList))) H
abbrev rNinC : R2 := fun x y H Q => ∃ (c : Nat) (z : Str), x = .str ⟨#[c]⟩ ∧ y = .str z ∧ Q (.bl (!decide (c ∈ z.cps.toList))) H
def rLtD (K : PySem.W.Frag) : R2 := fun x y H Q => ∃ d e, Dp K H x d ∧ Dp K H y e ∧ SeqAt.shaped d = true ∧ SeqAt.shaped e = true ∧ PySem.W.alike d e = true ∧ d ≠ .none ∧ Q (.bl (PySem.W.dataLt d e)) H
theorem op_ltD {X : Cx} (hu : X.A.units + 64 < cLine) : OpR X (compareOp .Lt) (rLtD X.K) := by
  intro pins s σ H x y v u Q I rx ry h
  obtain ⟨d, e, hd, he, sd, se, al, nn, q⟩ := h
  obtain ⟨as, r1⟩ := Dp.reads I d x v hd rx
  obtain ⟨bs, r2⟩ := Dp.reads I e y u he ry
  have z := PySem.W.rcLt_alike d e X.A s v u as bs r1 r2 al nn (SeqAt.room_of_shaped sd hu)
  exact z X.prog X.w X.xe (EP X pins σ Q) ⟨.bl _, H, I, rfl, q⟩
def rCmp (K : PySem.W.Frag) : COp → R2
  | .lt => fun x y H Q => rI0 (fun i j => .bl (decide (i < j))) x y H Q ∨ (rLtS x y H Q ∨ (rLtT K x y H Q ∨ rLtD K x y H Q))
  | .le => fun x y H Q => rI0 (fun i j => .bl (decide (i ≤ j))) x y H Q ∨ (rLeS x y H Q ∨ rLeT K x y H Q)
  | .gt => rI0 fun i j => .bl (decide (j < i))
  | .ge => rI0 fun i j => .bl (decide (j ≤ i))
  | .eq => fun x y H Q => rEqD K x y H Q ∨ rEq x y H Q
  | .ne => fun x y H Q => rNeD K x y H Q ∨ rNe x y H Q
  | .in_ => fun x y H Q => rInD K x y H Q ∨ (rIn K false x y H Q ∨ rInC x y H Q)
  | .nin => fun x y H Q => rNotInD K x y H Q ∨ (rIn K true x y H Q ∨ rNinC x y H Q)
  | .isN => rIsN'
  | .notN => rNotN'
def opC : COp → CmpOp
  | .lt => .Lt | .le => .LtE | .gt => .Gt | .ge => .GtE | .eq => .Eq | .ne => .NotEq | .in_ => .In | .nin => .NotIn | .isN => .Is | .notN => .IsNot
theorem opr_cmp {X : Cx} (hu : X.A.units + 65 < cLine) : ∀ op, OpR X (compareOp (opC op)) (rCmp X.K op)
  | .lt => op_lt.or (op_lt_str.or ((op_ltT (by omega)).or (op_ltD (by omega))))
  | .le => op_le.or (op_le_str.or (op_leT (by omega)))
  | .gt => op_gt
  | .ge => op_ge
  | .eq => (op_eqD (by omega)).or op_eq
  | .ne => (op_neD (by omega)).or op_ne
  | .in_ => (op_inD hu).or (op_in_seq.or op_in_sign)
  | .nin => (op_notInD hu).or (op_notIn_seq.or op_notIn_sign)
  | .isN => op_isN
  | .notN => op_notN
theorem eqD_some {t u : PV} {k : Bool} (h : eqD t u = some k) : ∃ d e, t.data = some d ∧ u.data = some e ∧ SeqAt.shaped d = true ∧ SeqAt.shaped e = true ∧ k = PyData.eqv d e := by
  unfold eqD at h
  split at h
  · rename_i d e hd he
    split at h
    · rename_i hz
      simp only [Bool.and_eq_true] at hz
      exact ⟨d, e, hd, he, hz.1, hz.2, (Option.some.inj h).symm⟩
    · cases h
  · cases h
theorem RepM.isN {ω : Wd} {H : Hp} {x : V} {t : PV} (h : RepM K b ω H x t) : decide (x = .non) = t.isNone := by
  rcases h with h | ⟨_, a, e, ⟨vs, ts', e1, e2, e3⟩, _⟩
  · cases h <;> simp [PV.isNone]
  · subst e e1; simp [PV.isNone]
theorem RepM.non {ω : Wd} {H : Hp} {x : V} (h : RepM K b ω H x .non) : x = .non := by
  rcases h with h | ⟨_, a, e, ⟨vs, ts', e1, e2, e3⟩, _⟩
  · cases h; rfl
  · cases e1
theorem scalE_v {ω : Wd} {H : Hp} {x y : V} {t u : PV} {k : Bool} (hx : RepM K b ω H x t) (hy : RepM K b' ω H y u) (h : scalE t u = some k) : scal x y = true ∧ decide (x = y) = k := by
  unfold scalE at h
  split at h
  · cases h; rw [hx.str, hy.str]; exact ⟨rfl, by simp⟩
  · cases h; rw [hx.str, hy.int]; exact ⟨rfl, by simp⟩
  · cases h; rw [hx.int, hy.str]; exact ⟨rfl, by simp⟩
  · cases h; rw [hx.str, hy.bl]; exact ⟨rfl, by simp⟩
  · cases h; rw [hx.bl, hy.str]; exact ⟨rfl, by simp⟩
  · cases h; rw [hx.str, hy.non]; exact ⟨rfl, by simp⟩
  · cases h; rw [hx.non, hy.str]; exact ⟨rfl, by simp⟩
  · cases h
theorem eqV_way {ω : Wd} {H : Hp} {x y : V} {t u : PV} {k : Bool} (hx : RepM K b ω H x t) (hy : RepM K b' ω H y u) (h : eqV t u = some k) : (∃ d e, Dp K H x d ∧ Dp K H y e ∧ SeqAt.shaped d = true ∧ SeqAt.shaped e = true ∧ k = PyData.eqv d e) ∨ (scal x y = true ∧ decide (x = y) = k) := by
  unfold eqV at h
  cases e : scalE t u with
  | some k' => rw [e] at h; cases h; exact .inr (scalE_v hx hy e)
  | none =>
    rw [e] at h
    obtain ⟨d, d', h1, h2, h3, h4, rfl⟩ := eqD_some h
    exact .inl ⟨d, d', hx.dp h1, hy.dp h2, h3, h4, rfl⟩
theorem flatP_v {ω : Wd} {H : Hp} {x : V} {t : PV} {v : V} (hx : RepM K b ω H x t) (h : flatP t = some v) : x = v ∧ flatV v = true := by
  cases t with
  | non => cases h; exact ⟨hx.non, rfl⟩
  | bl k => cases h; exact ⟨hx.bl, rfl⟩
  | int i => cases h; exact ⟨hx.int, rfl⟩
  | str s => cases h; exact ⟨hx.str, rfl⟩
  | _ => cases h
theorem flatPs_v {ω : Wd} {H : Hp} : ∀ {ts : List PV} {xs vs : List V}, RepL K ω H xs ts → flatPs ts = some vs → xs = vs ∧ vs.all flatV = true
  | [], _, _, .nil, h => by cases h; exact ⟨rfl, rfl⟩
  | t :: ts, _, vs, .cons hx r, h => by
    unfold flatPs at h
    cases q1 : flatP t with
    | none => rw [q1] at h; cases h
    | some v =>
      cases q2 : flatPs ts with
      | none => rw [q1, q2] at h; cases h
      | some ws =>
        rw [q1, q2] at h
        cases h
        obtain ⟨rfl, f1⟩ := flatP_v (b := false) (.inl hx) q1
        obtain ⟨rfl, f2⟩ := flatPs_v r q2
        exact ⟨rfl, by rw [List.all_cons, f1, f2]; rfl⟩
theorem inV_way {ω : Wd} {H : Hp} {x y : V} {t u : PV} {k : Bool} (hx : RepM K b ω H x t) (hy : RepM K b' ω H y u) (h : inV t u = some k) :
    (∃ d ds, Dp K H x d ∧ Dp K H y (.list ds) ∧ SeqAt.shaped d = true ∧ SeqAt.shaped (.list ds) = true ∧ k = ds.any fun z => PyData.eqv z d) ∨
    (∃ p xs, y = .ref p ∧ (SqL K H p xs ∨ SqT K H p xs) ∧ flatV x = true ∧ xs.all flatV = true ∧ k = L2.inV x xs) ∨
    (∃ (c : Nat) (z : Str), x = .str ⟨#[c]⟩ ∧ y = .str z ∧ k = decide (c ∈ z.cps.toList)) := by
  unfold inV at h
  split at h
  · rename_i xs
    split at h
    · rename_i d ds h1 h2
      unfold inL at h
      split at h
      · rename_i hz
        cases h
        simp only [Bool.and_eq_true] at hz
        exact .inl ⟨d, ds, hx.dp h1, hy.dp (by rw [PV.data, h2]; rfl), hz.1, hz.2, rfl⟩
      · cases h
    · cases h
  · rename_i xs
    split at h
    · rename_i v vs h1 h2
      cases h
      obtain ⟨a, ws, rfl, ha, ra⟩ := hy.tup
      obtain ⟨rfl, f1⟩ := flatP_v hx h1
      obtain ⟨rfl, f2⟩ := flatPs_v ra h2
      exact .inr (.inl ⟨a, _, rfl, .inr ha, f1, f2, rfl⟩)
    · cases h
  · rename_i z
    split at h
    · rename_i s
      split at h
      · rename_i c hc
        cases h
        refine .inr (.inr ⟨c, z, ?_, hy.str, rfl⟩)
        rw [hx.str]
        have : s.cps = #[c] := by
          have := congrArg List.toArray hc
          simpa using this
        cases s
        simp at this
        rw [this]
      · cases h
    · cases h
  · cases h
theorem intsP_v {ω : Wd} {H : Hp} : ∀ {ts : List PV} {xs : List V} {ns : List Int}, RepL K ω H xs ts → intsP ts = some ns → xs = ns.map V.int
  | [], _, _, .nil, h => by cases h; rfl
  | t :: ts, _, ns, .cons hx r, h => by
    cases t with
    | int i =>
      rw [intsP] at h
      cases q : intsP ts with
      | none => rw [q] at h; cases h
      | some ms =>
        rw [q] at h
        cases h
        cases hx
        rw [intsP_v r q]
        rfl
    | _ => cases h
theorem cmpT_way {ω : Wd} {H : Hp} {x y : V} {f : List Int → List Int → Bool} {ts us : List PV} {z : PV} (hx : RepM K b ω H x (.tup ts)) (hy : RepM K b' ω H y (.tup us)) (h : (cmpT f ts us).map PV.bl = some z) :
    ∃ a b ns ms, x = .ref a ∧ y = .ref b ∧ SqT K H a (ns.map V.int) ∧ SqT K H b (ms.map V.int) ∧ z = .bl (f ns ms) := by
  obtain ⟨a, vs, rfl, ha, ra⟩ := hx.tup
  obtain ⟨a', vs', rfl, ha', ra'⟩ := hy.tup
  unfold cmpT at h
  cases q1 : intsP ts with
  | none => rw [q1] at h; cases h
  | some ns =>
    cases q2 : intsP us with
    | none => rw [q1, q2] at h; cases h
    | some ms =>
      rw [q1, q2] at h
      cases h
      have e1 := intsP_v ra q1
      have e2 := intsP_v ra' q2
      subst e1 e2
      exact ⟨a, a', ns, ms, rfl, rfl, ha, ha', rfl⟩
theorem vr_cmp (op : COp) : VR2 K b b' (rCmp K op) (fun _ x y => (cmpV op x y).map .bl) := by
  intro st x y t u z ω H Q c hx hy hv q
  dsimp only at hv
  unfold cmpV at hv
  split at hv
  · cases hv; exact .inl ⟨_, _, hx.int, hy.int, q _ _ ω (Grow.refl ω H) (.bl _)⟩
  · cases hv; exact .inl ⟨_, _, hx.int, hy.int, q _ _ ω (Grow.refl ω H) (.bl _)⟩
  · cases hv; exact ⟨_, _, hx.int, hy.int, q _ _ ω (Grow.refl ω H) (.bl _)⟩
  · cases hv; exact ⟨_, _, hx.int, hy.int, q _ _ ω (Grow.refl ω H) (.bl _)⟩
  · cases hv; exact .inr (.inl ⟨_, _, hx.str, hy.str, q _ _ ω (Grow.refl ω H) (.bl _)⟩)
  · cases hv; exact .inr (.inl ⟨_, _, hx.str, hy.str, q _ _ ω (Grow.refl ω H) (.bl _)⟩)
  · rename_i xs ys
    cases ec : cmpT HT.lexLt xs ys with
    | some k =>
      rw [ec] at hv
      obtain ⟨a, b, ns, ms, e1, e2, h1, h2, rfl⟩ := cmpT_way (f := HT.lexLt) hx hy (by rw [ec]; exact hv)
      exact .inr (.inr (.inl ⟨a, b, ns, ms, e1, e2, h1, h2, q _ _ ω (Grow.refl ω H) (.bl _)⟩))
    | none =>
      rw [ec] at hv
      dsimp only at hv
      cases el : ltD (.tup xs) (.tup ys) with
      | none => rw [el] at hv; cases hv
      | some k =>
        rw [el] at hv
        cases hv
        unfold ltD at el
        split at el
        · rename_i d e hd he
          split at el
          · rename_i hz
            cases el
            simp only [Bool.and_eq_true, Bool.not_eq_true'] at hz
            refine .inr (.inr (.inr ⟨d, e, hx.dp hd, hy.dp he, hz.1.1.1, hz.1.1.2, hz.1.2, ?_, q _ _ ω (Grow.refl ω H) (.bl _)⟩))
            rintro rfl
            exact absurd hz.2 (by decide)
          · cases el
        · cases el
  · obtain ⟨a, b, ns, ms, e1, e2, h1, h2, rfl⟩ := cmpT_way hx hy hv
    exact .inr (.inr ⟨a, b, ns, ms, e1, e2, h1, h2, q _ _ ω (Grow.refl ω H) (.bl _)⟩)
  · cases e : eqV t u with
    | none => rw [e] at hv; cases hv
    | some k =>
      rw [e] at hv
      cases hv
      rcases eqV_way hx hy e with ⟨d, d', h1, h2, h3, h4, rfl⟩ | ⟨h1, rfl⟩
      · exact .inl ⟨d, d', h1, h2, h3, h4, q _ _ ω (Grow.refl ω H) (.bl _)⟩
      · exact .inr ⟨h1, q _ _ ω (Grow.refl ω H) (.bl _)⟩
  · cases e : eqV t u with
    | none => rw [e] at hv; cases hv
    | some k =>
      rw [e] at hv
      cases hv
      rcases eqV_way hx hy e with ⟨d, d', h1, h2, h3, h4, rfl⟩ | ⟨h1, rfl⟩
      · exact .inl ⟨d, d', h1, h2, h3, h4, q _ _ ω (Grow.refl ω H) (.bl _)⟩
      · exact .inr ⟨h1, q _ _ ω (Grow.refl ω H) (.bl _)⟩
  · cases e : inV t u with
    | none => rw [e] at hv; cases hv
    | some k =>
      rw [e] at hv
      cases hv
      rcases inV_way hx hy e with ⟨d, ds, h1, h2, h3, h4, rfl⟩ | ⟨p, xs, h1, h2, h3, h4, rfl⟩ | ⟨c, z, h1, h2, rfl⟩
      · exact .inl ⟨d, ds, h1, h2, h3, h4, q _ _ ω (Grow.refl ω H) (.bl _)⟩
      · exact .inr (.inl ⟨p, xs, h1, h2, h3, h4, q _ _ ω (Grow.refl ω H) (.bl _)⟩)
      · exact .inr (.inr ⟨c, z, h1, h2, q _ _ ω (Grow.refl ω H) (.bl _)⟩)
  · cases e : inV t u with
    | none => rw [e] at hv; cases hv
    | some k =>
      rw [e] at hv
      cases hv
      rcases inV_way hx hy e with ⟨d, ds, h1, h2, h3, h4, rfl⟩ | ⟨p, xs, h1, h2, h3, h4, rfl⟩ | ⟨c, z, h1, h2, rfl⟩
      · exact .inl ⟨d, ds, h1, h2, h3, h4, q _ _ ω (Grow.refl ω H) (.bl _)⟩
      · exact .inr (.inl ⟨p, xs, h1, h2, h3, h4, q _ _ ω (Grow.refl ω H) (.bl _)⟩)
      · exact .inr (.inr ⟨c, z, h1, h2, q _ _ ω (Grow.refl ω H) (.bl _)⟩)
  · cases hv
    exact ⟨hy.non, by rw [hx.isN]; exact q _ _ ω (Grow.refl ω H) (.bl _)⟩
  · cases hv
    exact ⟨hy.non, by rw [hx.isN]; exact q _ _ ω (Grow.refl ω H) (.bl _)⟩
  · cases hv
end
end Ev
namespace Ev
open PySem L2
section
variable {K : PySem.W.Frag} {b b' : Bool}
def rC1 (r : List V → Hp → VK → Prop) : V → Hp → VK → Prop := fun x H Q => r [x] H Q
theorem vr_neg : VR1 K b (rU fun i => .int (-i)) (fun _ => negV) := by
  intro st x t z ω H Q c hx hv q
  dsimp only at hv
  unfold negV at hv
  split at hv
  · cases hv; exact ⟨_, hx.int, q _ _ ω (Grow.refl ω H) (.int _)⟩
  · cases hv
/-- len of a list, a tuple, a text -/
abbrev rLenV (K : PySem.W.Frag) : List V → Hp → VK → Prop := fun xs H Q => (∃ p ys, xs = [.ref p] ∧ (SqL K H p ys ∨ SqT K H p ys) ∧ Q (.int ys.length) H) ∨ (∃ z, xs = [.str z] ∧ z.length ≤ sizeLine ∧ Q (.int z.length) H)
theorem CallR.or {X : Cx} {f : Value} {r r' : List V → Hp → VK → Prop} (h : CallR X f r) (h' : CallR X f r') : CallR X f (fun xs H Q => r xs H Q ∨ r' xs H Q) := by
  intro pins s σ H xs us Q I rx q
  rcases q with q | q
  · exact h pins s σ H xs us Q I rx q
  · exact h' pins s σ H xs us Q I rx q
theorem cr_lenV {X : Cx} : CallR X (.builtin "len") (rLenV X.K) := CallR.or call_len_seq call_len_str
theorem vr_len : VR1 K true (rC1 (rLenV K)) (fun _ => lenV) := by
  intro st x t z ω H Q c hx hv q
  dsimp only at hv
  unfold lenV at hv
  split at hv
  · cases hv
    obtain ⟨a, vs, rfl, ha, ra⟩ := hx.lst
    exact .inl ⟨a, vs, rfl, .inl (.inl (.inl ha)), by rw [ra.length]; exact q _ _ ω (Grow.refl ω H) (.int _)⟩
  · cases hv
    obtain ⟨a, vs, rfl, ha, ra⟩ := hx.tup
    exact .inl ⟨a, vs, rfl, .inr ha, by rw [ra.length]; exact q _ _ ω (Grow.refl ω H) (.int _)⟩
  · cases hv
    obtain ⟨a, vs, rfl, ha, ra⟩ := hx.rol
    exact .inl ⟨a, vs, rfl, .inl ha, by rw [ra.length]; exact q _ _ ω (Grow.refl ω H) (.int _)⟩
  · split at hv
    · rename_i hz
      cases hv
      exact .inr ⟨_, by rw [hx.str], szOk_le hz, q _ _ ω (Grow.refl ω H) (.int _)⟩
    · cases hv
  · cases hv
theorem vr_toInt : VR1 K b (rC1 (fun xs H Q => (∃ i, xs = [.int i] ∧ Q (.int i) H) ∨ ∃ k, xs = [.bl k] ∧ Q (.int (if k then 1 else 0)) H)) (fun _ => toIntV) := by
  intro st x t z ω H Q c hx hv q
  dsimp only at hv
  unfold toIntV at hv
  split at hv
  · cases hv; exact .inl ⟨_, by rw [hx.int], q _ _ ω (Grow.refl ω H) (.int _)⟩
  · cases hv; exact .inr ⟨_, by rw [hx.bl], q _ _ ω (Grow.refl ω H) (.int _)⟩
  · cases hv
theorem allB_some {ω : Wd} {H : Hp} : ∀ {ts : List PV} {vs : List V} {bs : List Bool}, allB ts = some bs → RepL K ω H vs ts → vs = bs.map V.bl
  | [], _, _, h, .nil => by cases h; rfl
  | .bl c :: ts, _, bs, h, .cons r rs => by
    unfold allB at h
    cases e : allB ts with
    | none => rw [e] at h; cases h
    | some bs' =>
      rw [e] at h
      cases h
      cases r
      rw [allB_some e rs]
      rfl
  | .non :: _, _, _, h, _ => by cases h
  | .int _ :: _, _, _, h, _ => by cases h
  | .str _ :: _, _, _, h, _ => by cases h
  | .tup _ :: _, _, _, h, _ => by cases h
  | .lst _ :: _, _, _, h, _ => by cases h
  | .rol _ :: _, _, _, h, _ => by cases h
  | .cell _ :: _, _, _, h, _ => by cases h
  | .dct _ _ :: _, _, _, h, _ => by cases h
theorem vr_all : VR1 K true (rC1 (rAll K)) (fun _ => allV) := by
  intro st x t z ω H Q c hx hv q
  dsimp only at hv
  unfold allV at hv
  split at hv
  · rename_i xs
    obtain ⟨a, vs, rfl, ha, ra⟩ := hx.lst
    cases e : allB xs with
    | none => rw [e] at hv; cases hv
    | some bs =>
      rw [e] at hv
      cases hv
      have e2 := allB_some e ra
      subst e2
      exact ⟨a, bs, rfl, .inl (.inl ha), q _ _ ω (Grow.refl ω H) (.bl _)⟩
  · cases hv
/-! subscripts -/
theorem vr_ix : VR2 K true b' (rIx K) (fun st => ixV st) := by
  intro st x y t u z ω H Q c hx hy hv q
  dsimp only at hv
  unfold ixV at hv
  split at hv
  · obtain ⟨a, vs, rfl, ha, ra⟩ := hx.lst
    obtain ⟨v, e, rv⟩ := ra.atI hv
    exact .inl ⟨a, vs, _, v, rfl, hy.int, .inl (.inl ha), e, q _ _ ω (Grow.refl ω H) rv⟩
  · obtain ⟨a, vs, rfl, ha, ra⟩ := hx.tup
    obtain ⟨v, e, rv⟩ := ra.atI hv
    exact .inr (.inl ⟨a, vs, _, v, rfl, hy.int, ha, e, q _ _ ω (Grow.refl ω H) rv⟩)
  · obtain ⟨a, vs, rfl, ha, ra⟩ := hx.rol
    obtain ⟨v, e, rv⟩ := ra.atI hv
    exact .inl ⟨a, vs, _, v, rfl, hy.int, ha, e, q _ _ ω (Grow.refl ω H) rv⟩
  · rename_i k i
    obtain ⟨a, rfl, ha⟩ := hx.cell
    obtain ⟨vs, ts, h1, h2, ra⟩ := c.at_ k a ha
    rw [h1] at hv
    obtain ⟨v, e, rv⟩ := ra.atI hv
    exact .inl ⟨a, vs, _, v, rfl, hy.int, .inl (.inl h2), e, q _ _ ω (Grow.refl ω H) rv⟩
  · rename_i z i
    split at hv
    · rename_i hz
      cases e : atI z.cps.toList i with
      | none => rw [e] at hv; cases hv
      | some k =>
        rw [e] at hv
        cases hv
        exact .inr (.inr ⟨z, i, k, hx.str, hy.int, szOk_le hz, e, q _ _ ω (Grow.refl ω H) (.str _)⟩)
    · cases hv
  · cases hv
theorem cut_len {α β : Type} {xs : List α} {ys : List β} (h : xs.length = ys.length) (lo hi : Option Int) : HT.sIx xs.length 0 lo = HT.sIx ys.length 0 lo ∧ HT.sIx xs.length xs.length hi = HT.sIx ys.length ys.length hi := by rw [h]; exact ⟨rfl, rfl⟩
theorem RepL.cut {ω : Wd} {H : Hp} {vs : List V} {ts : List PV} (r : RepL K ω H vs ts) (lo hi : Option Int) : RepL K ω H (cutV vs lo hi) (cutP ts lo hi) := by
  unfold cutV cutP
  rw [r.length]
  exact (r.drop _).take _
/-! isinstance -/
def tyS : Ty → String
  | .int => "int" | .bool => "bool" | .str => "str" | .tuple => "tuple" | .list => "list"
end
/-! fresh lists -/
def FreshP (K : PySem.W.Frag) (H : Hp) (ω' : Wd) (H' : Hp) (v : V) (t : PV) : Prop := ∃ p vs ts, v = .ref p ∧ t = .lst ts ∧ H p = none ∧ H' p = some (.lst vs) ∧ ¬ ω'.S p ∧ p ∉ ω'.cs ∧ RepL K ω' H' vs ts
def postF (K : PySem.W.Frag) (g : Gh) (ω : Wd) (ρ : En) (σ : St) (H : Hp) (W : Wx) (r : R PV) (Q : VK) : Prop := match r with
  | .ok t st' => ∀ x H' ω', ExtE ω H ω' H' → CelOk K ω' st' H' → FreshP K H ω' H' x t → Q x H'
  | .exc e st' => ∀ H' ω', ExtE ω H ω' H' → CelOk K ω' st' H' → W e g ω' ρ st' σ H'
  | .bad => False
def tvF (K : PySem.W.Frag) (W : Wx) (f : En → Cel → R PV) : TE := fun σ H Q => ∃ g ω ρ st, Rel K g ω ρ st σ H ∧ postF K g ω ρ σ H W (f ρ st) Q
section
variable {K : PySem.W.Frag} {g : Gh} {ω ω' : Wd} {ρ : En} {st st' : Cel} {σ : St} {H H' : Hp} {W : Wx} {X : Cx} {e a b : Expr}
theorem CelOk.add {p : Addr} {o : HO} (c : CelOk K ω st H) (h : p ∉ ω.cs) (hp : H p = some o) : CelOk K (ω.add p) st H := by
  have x : Ext ω H (ω.add p) H := ⟨fun _ z => .inl z, ⟨[], by simp [Wd.add]⟩, fun _ _ z _ => z⟩
  refine ⟨c.len, c.nd, fun a ha z => ?_, fun a z => ?_, fun k a ha => ?_⟩
  · rcases z with z | z
    · exact c.out a ha z
    · exact h (z ▸ ha)
  · rcases z with z | z
    · exact c.trk a z
    · rw [z]; exact ⟨o, hp⟩
  · obtain ⟨vs, ts, h1, h2, h3⟩ := c.at_ k a ha
    exact ⟨vs, ts, h1, h2, h3.mono x⟩
theorem FreshP.rep {v : V} {t : PV} (h : FreshP K H ω' H' v t) (x : ExtE ω H ω' H') (c : CelOk K ω' st' H') : ∃ ω2, ExtE ω H ω2 H' ∧ CelOk K ω2 st' H' ∧ Rep K ω2 H' v t := by
  obtain ⟨p, vs, ts, rfl, rfl, h1, h2, h3, h4, h5⟩ := h
  have y : Ext ω' H' (ω'.add p) H' := ⟨fun _ z => .inl z, ⟨[], by simp [Wd.add]⟩, fun _ _ z _ => z⟩
  refine ⟨ω'.add p, ⟨fun a z => .inl (x.sub a z), x.cs, x.keep, fun a z => ?_, x.newC, x.there⟩, c.add h4 h2, .lst (.inr rfl) h2 (h5.mono y)⟩
  rcases z with z | z
  · exact x.newS a z
  · rw [z]; exact .inr h1
/-- a fresh list as a value -/
theorem v_of_F {f : En → Cel → R PV} {bz : Bool} : ∀ σ H Q, tv K bz W f σ H Q → tvF K W f σ H Q := by
  intro σ H Q ⟨g, ω, ρ, st, rel, q⟩
  refine ⟨g, ω, ρ, st, rel, ?_⟩
  cases e1 : f ρ st with
  | ok t s =>
    rw [e1] at q
    intro x H' ω' y c p
    obtain ⟨ω2, y2, c2, r2⟩ := p.rep y c
    exact q x H' ω2 y2 c2 (.inl r2)
  | exc x s => rw [e1] at q; exact q
  | bad => rw [e1] at q; exact q
theorem sF_v {f : En → Cel → R PV} {bz : Bool} (h : PE X e (tvF X.K W f)) : PE X e (tv X.K bz W f) := wPE h v_of_F
theorem postF.ext {r : R PV} {Q : VK} (h : postF K g ω ρ σ H W r Q) (x : ExtE ω H ω' H') : postF K g ω' ρ σ H' W r Q := by
  cases r with
  | ok t s =>
    rintro y H2 ω2 x2 c ⟨p, vs, ts, e1, e2, h1, h2⟩
    exact h y H2 ω2 (x.trans x2) c ⟨p, vs, ts, e1, e2, x.none h1, h2⟩
  | exc e s => exact fun H2 ω2 x2 c => h H2 ω2 (x.trans x2) c
  | bad => exact h
theorem bindF {α β : Type} {P : RX α β} {f : En → Cel → R α} {k : α → Cel → R PV} {Q : VK} (r : Rel K g ω ρ st σ H) (h : postF K g ω ρ σ H W ((f ρ st).bind k) Q) :
    tG P K W f σ H (fun x H1 => ∃ ω1 st1 t, ExtE ω H ω1 H1 ∧ Rel K g ω1 ρ st1 σ H1 ∧ P ω1 H1 x t ∧ postF K g ω1 ρ σ H1 W (k t st1) Q) := by
  refine ⟨g, ω, ρ, st, r, ?_⟩
  cases e : f ρ st with
  | ok t s =>
    rw [e] at h
    exact fun x H1 ω1 x1 c p => ⟨ω1, s, t, x1, r.extE x1 c, p, postF.ext h x1⟩
  | exc x s => rw [e] at h; exact h
  | bad => rw [e] at h; exact h
/-- a new list of values that are told -/
theorem freshNew {vs : List V} {ts : List PV} {Q : VK} (rel : Rel K g ω ρ st σ H) (q : postF K g ω ρ σ H W (.ok (.lst ts) st) Q) (r : RepL K ω H vs ts) : ∀ p, H p = none → Q (.ref p) (upd H p (.lst vs)) := fun p hp => by
  refine q _ _ ω (Grow.upd hp).toE (rel.cells.grow (Grow.upd hp)) ⟨p, vs, ts, rfl, rfl, hp, upd_same, fun z => ?_, fun z => ?_, r.mono (Grow.upd hp).ext⟩
  · obtain ⟨o, q⟩ := rel.cells.trk p z
    rw [hp] at q; cases q
  · obtain ⟨vs, z⟩ := rel.cells.lstAt z
    rw [hp] at z; cases z
theorem sF_lst {es : List Expr} {f : En → Cel → R (List PV)} (hpe : ∀ ta, PA X es ta → PE X e (tLst ta)) (ha : PA X es (tvs X.K W f)) :
    PE X e (tvF X.K W fun ρ st => (f ρ st).bind fun xs st => if szOk xs.length then .ok (.lst xs) st else .bad) := by
  refine wPE (hpe _ ha) fun σ H Q ⟨g, ω, ρ, st, rel, h⟩ => (bindF (P := RepL X.K) rel h).mono fun xs H1 ⟨ω1, st1, ts, x1, rel1, p, q⟩ => ?_
  by_cases hz : szOk ts.length = true
  · rw [if_pos hz] at q
    exact ⟨by rw [p.length]; exact szOk_le hz, freshNew rel1 q p⟩
  · rw [if_neg hz] at q; exact q.elim
/-- one operand, the answer a new list -/
theorem sF1 {f : En → Cel → R PV} {r : V → Hp → VK → Prop} {v : Cel → PV → Option PV} {ba : Bool} (hpe : ∀ ta, PE X a ta → PE X e (tUn r ta)) (ha : PE X a (tv X.K ba W f))
    (hv : ∀ (st : Cel) (x : V) (t z : PV) (ω : Wd) (H : Hp) (Q : VK), CelOk X.K ω st H → RepM X.K ba ω H x t → v st t = some z → (∀ vs ts, z = .lst ts → RepL X.K ω H vs ts → ∀ p, H p = none → Q (.ref p) (upd H p (.lst vs))) → r x H Q) :
    PE X e (tvF X.K W fun ρ st => (f ρ st).bind fun x st => R.of (v st x) st) := by
  refine wPE (hpe _ ha) fun σ H Q ⟨g, ω, ρ, st, rel, h⟩ => (bindF (P := RepM X.K ba) rel h).mono fun x H1 ⟨ω1, st1, t, x1, rel1, p, q⟩ => ?_
  cases e : v st1 t with
  | none => rw [e] at q; exact q.elim
  | some z =>
    rw [e] at q
    exact hv st1 x t z ω1 H1 Q rel1.cells p e fun vs ts ez r => by subst ez; exact freshNew rel1 q r
theorem vf_list {K : PySem.W.Frag} : ∀ (st : Cel) (x : V) (t z : PV) (ω : Wd) (H : Hp) (Q : VK), CelOk K ω st H → RepM K true ω H x t → listV t = some z → (∀ vs ts, z = .lst ts → RepL K ω H vs ts → ∀ p, H p = none → Q (.ref p) (upd H p (.lst vs))) →
    rC1 (fun xs H Q => ∃ p ys, xs = [.ref p] ∧ (SqL K H p ys ∨ SqT K H p ys) ∧ ∀ l, H l = none → Q (.ref l) (upd H l (.lst ys))) x H Q := by
  intro st x t z ω H Q c hx hv q
  unfold listV at hv
  split at hv
  · cases hv
    obtain ⟨a, vs, rfl, ha, ra⟩ := hx.lst
    exact ⟨a, vs, rfl, .inl (.inl (.inl ha)), q vs _ rfl ra⟩
  · cases hv
    obtain ⟨a, vs, rfl, ha, ra⟩ := hx.tup
    exact ⟨a, vs, rfl, .inr ha, q vs _ rfl ra⟩
  · cases hv
end
end Ev
namespace Ev
open PySem L2
section
variable {K : PySem.W.Frag} {b b' : Bool}
/-! ### tuple(text) -/
def signsV (s : Str) : List V := s.cps.toList.map fun c => .str ⟨#[c]⟩
theorem repl_signs {ω : Wd} {H : Hp} (s : Str) : RepL K ω H (signsV s) (signsP s) := by
  unfold signsV signsP
  induction s.cps.toList with
  | nil => exact .nil
  | cons c r ih => exact .cons (.str _) ih
def rTupS : List V → Hp → VK → Prop := fun xs H Q => ∃ x, xs = [.str x] ∧ x.length ≤ sizeLine ∧ ∀ l, H l = none → Q (.ref l) (upd H l (.tup (signsV x)))
theorem cr_tupS {X : Cx} (hc : X.calm = true) : CallR X (.type "tuple") rTupS := by
  intro pins s σ H xs us Q I r h
  obtain ⟨x, rfl, hz, q⟩ := h
  obtain ⟨u, rfl, t, rfl⟩ := vals1 r
  refine call_tuple_str (I.ok.hd hc) x t (fun h' tk acc kp hacc => ?_) hz
  have I1 : Inv X pins σ H { s with heap := h', toks := tk } := I.kept (t' := tk) kp
  have hv : Vals (signsV x) acc.toList := by
    have key : ∀ (cs : List Nat) (vs : List Value), vs.length = cs.length → (∀ (j : Nat) (v : Value), vs[j]? = some v → ∃ c u, cs[j]? = some c ∧ v = .str ⟨#[c]⟩ u) → Vals (cs.map fun c => V.str ⟨#[c]⟩) vs := by
      intro cs
      induction cs with
      | nil =>
        intro vs hl _
        cases vs with
        | nil => exact .nil
        | cons _ _ => simp at hl
      | cons c cs ih =>
        intro vs hl hj
        cases vs with
        | nil => simp at hl
        | cons v vs =>
          obtain ⟨c', u, e1, e2⟩ := hj 0 v rfl
          simp at e1
          subst e1 e2
          exact .cons ⟨u, rfl⟩ (ih vs (by simpa using hl) fun j v e => by simpa using hj (j + 1) v (by simpa using e))
    refine key x.cps.toList acc.toList (by simpa using hacc.1) fun j v e => ?_
    obtain ⟨c, u, e1, e2⟩ := hacc.2 j v (by simpa using e)
    exact ⟨c, u, by simpa using e1, e2⟩
  have hl : (signsV x).length ≤ sizeLine := by
    unfold signsV
    rw [List.length_map]
    exact hz
  have I2 : Inv X pins σ (upd H h'.objs.size (.tup (signsV x))) { s with heap := h'.push { cls := .type "tuple", data := .seq acc }, toks := tk } := by
    have e : acc = acc.toList.toArray := by simp
    rw [e]
    exact I1.laid (t' := tk) (fun b o e => Heap.get?_push_of_some _ e) (Nat.le_refl _) (show ObjOk X.prog X.w _ _ _ (.tup (signsV x)) from ⟨hl, acc.toList, hv, PyProof.Rows.IsTup.new _ _⟩)
  exact ⟨.ref h'.objs.size, _, I2, rfl, q _ (I1.hok.fresh (Nat.le_refl _))⟩
abbrev rTupV (K : PySem.W.Frag) : List V → Hp → VK → Prop := fun xs H Q => (∃ p ys, xs = [.ref p] ∧ ((SqL K H p ys ∧ ∀ l, H l = none → Q (.ref l) (upd H l (.tup ys))) ∨ (SqT K H p ys ∧ Q (.ref p) H))) ∨ rTupS xs H Q
theorem cr_tupV {X : Cx} (hc : X.calm = true) : CallR X (.type "tuple") (rTupV X.K) := CallR.or call_tuple_of (cr_tupS hc)
theorem vr_tupleOf : VR1 K true (rC1 (rTupV K)) (fun _ => tupleV) := by
  intro st x t z ω H Q c hx hv q
  dsimp only at hv
  unfold tupleV at hv
  split at hv
  · split at hv
    · rename_i s hz
      cases hv
      exact .inr ⟨s, by rw [hx.str], szOk_le hz, newTup (repl_signs s) q⟩
    · cases hv
  · cases hv
    obtain ⟨a, vs, rfl, ha, ra⟩ := hx.lst
    exact .inl ⟨a, vs, rfl, .inl ⟨.inl (.inl ha), newTup ra q⟩⟩
  · cases hv
    obtain ⟨a, vs, rfl, ha, ra⟩ := hx.tup
    exact .inl ⟨a, vs, rfl, .inr ⟨ha, q _ _ ω (Grow.refl ω H) (.tup ha ra)⟩⟩
  · cases hv
/-! ### any, str -/
theorem vr_any : VR1 K true (rC1 (rAny K)) (fun _ => anyV) := by
  intro st x t z ω H Q c hx hv q
  dsimp only at hv
  cases t with
  | lst ts =>
    change (allB ts).map (fun bs => PV.bl (bs.any id)) = some z at hv
    cases e : allB ts with
    | none => rw [e] at hv; cases hv
    | some bs =>
      rw [e] at hv
      cases hv
      obtain ⟨a, vs, rfl, ha, ra⟩ := hx.lst
      obtain rfl := allB_some e ra
      exact ⟨a, bs, rfl, .inl (.inl ha), q _ _ ω (Grow.refl ω H) (.bl _)⟩
  | _ => cases hv
abbrev rStr1 : List V → Hp → VK → Prop := fun xs H Q => (∃ i, xs = [.int i] ∧ i.natAbs.log2 < 1920 ∧ Q (.str (toString i)) H) ∨ ∃ a, xs = [.str a] ∧ Q (.str a) H
theorem cr_str1 {X : Cx} : CallR X (.type "str") rStr1 := CallR.or call_str_int SkE.call_str_str
theorem vr_str1 : VR1 K true (rC1 rStr1) (fun _ => str1V) := by
  intro st x t z ω H Q c hx hv q
  dsimp only at hv
  cases t with
  | int i =>
    change (if i.natAbs.log2 < 1920 then some (PV.str (toString i)) else none) = some z at hv
    split at hv
    · rename_i hz
      cases hv
      exact .inl ⟨i, by rw [hx.int], hz, q _ _ ω (Grow.refl ω H) (.str _)⟩
    · cases hv
  | str s =>
    cases hv
    exact .inr ⟨s, by rw [hx.str], q _ _ ω (Grow.refl ω H) (.str _)⟩
  | _ => cases hv
/-! ### l[::-1] -/
theorem RepL.reverse {ω : Wd} {H : Hp} : ∀ {vs : List V} {ts : List PV}, RepL K ω H vs ts → RepL K ω H vs.reverse ts.reverse
  | _, _, .nil => .nil
  | _, _, .cons h r => by rw [List.reverse_cons, List.reverse_cons]; exact (RepL.reverse r).append (.cons h .nil)
theorem vr_rev : VR1 K true (fun x H Q => ∃ a xs, x = .ref a ∧ SqL K H a xs ∧ ∀ p, H p = none → Q (.ref p) (upd H p (.lst xs.reverse))) (fun _ => revV) := by
  intro st x t z ω H Q c hx hv q
  dsimp only at hv
  cases t with
  | lst ts =>
    cases hv
    obtain ⟨a, vs, rfl, ha, ra⟩ := hx.lst
    exact ⟨a, vs, rfl, .inl (.inl ha), newLst ra.reverse q⟩
  | _ => cases hv
end
end Ev
namespace Ev
open PySem PySem.Spec PyProof.Rows L2
/-! ### sorted of data -/
theorem perm_of_map {α β : Type} {f : α → β} {l m : List β} (h : l.Perm m) : ∀ {L : List α}, m = L.map f → ∃ M : List α, M.Perm L ∧ l = M.map f := by
  induction h with
  | nil => intro L e; exact ⟨L, List.Perm.refl _, e⟩
  | cons x _ ih =>
    intro L e
    cases L with
    | nil => cases e
    | cons y L =>
      rw [List.map_cons, List.cons.injEq] at e
      obtain ⟨M, p, q⟩ := ih e.2
      exact ⟨y :: M, p.cons y, by rw [List.map_cons, ← e.1, q]⟩
  | swap x y l =>
    intro L e
    match L, e with
    | a :: b :: L, e =>
      simp only [List.map_cons, List.cons.injEq] at e
      exact ⟨b :: a :: L, List.Perm.swap _ _ _, by simp only [List.map_cons, List.cons.injEq]; exact ⟨e.2.1, e.1, e.2.2⟩⟩
    | [a], e => simp at e
    | [], e => cases e
  | trans _ _ ih1 ih2 =>
    intro L e
    obtain ⟨M, p, q⟩ := ih2 e
    obtain ⟨N, p2, q2⟩ := ih1 q
    exact ⟨N, p2.trans p, q2⟩
theorem le_rows {β : Type} (f : β → List Int) : PySem.W.dataLe false (fun b => PyData.tuple ((f b).map .int)) = fun p q => decide (f p ≤ f q) := by
  funext p q
  show (!PySem.W.dataLt _ _) = _
  rw [PySem.W.dataLt_tuple]
  show (!PySem.W.rowLt _ _) = _
  rw [PySem.W.dataLt_ints]
  rcases Classical.em (f q < f p) with z | z
  · rw [decide_eq_true z, decide_eq_false (fun r => List.not_lt.mpr r z)]; rfl
  · rw [decide_eq_false z, decide_eq_true (List.not_lt.mp z)]; rfl
theorem alike_rows (xs ys : List Int) : PySem.W.alike (.tuple (xs.map .int)) (.tuple (ys.map .int)) = true := by
  show PySem.W.alikeAll _ _ = true
  exact PySem.W.alike_ints xs ys
theorem ints_read {h : Heap} : ∀ {k : List Int} {us : List Value}, Vals (k.map V.int) us → ReadsAll h us (k.map PyData.int) []
  | [], _, .nil => .nil
  | n :: k, _, .cons ⟨t, e⟩ r => by
    rw [show _ = Value.int n t from e]
    exact ReadsAll.cons (as := []) (bs := []) (.int n t) (ints_read r)
theorem intKind_of {P : Program} {w : World} {k : Int} {v : Value} (h : (PySem.intKind P w).is k v = true) : ∃ t, v = Value.int k t := by
  cases v with
  | int i t =>
    simp [PySem.intKind, Value.isInt] at h
    exact ⟨t, by rw [h]⟩
  | _ => simp [PySem.intKind, Value.isInt] at h
theorem each_refs {R : Value → (Addr × List Int) → Prop} : ∀ {M : List (Addr × List Int)}, (∀ q ∈ M, R (.ref q.1) q) → PySem.W.EachIs R (M.map fun q => Value.ref q.1) M
  | [], _ => .nil
  | q :: M, h => .cons (h q (List.mem_cons_self ..)) (each_refs fun r hr => h r (List.mem_cons_of_mem _ hr))
theorem refs_each : ∀ {vs : List Value} {M : List (Addr × List Int)}, PySem.W.EachIs (fun v q => v = Value.ref q.1) vs M → vs = M.map fun q => Value.ref q.1
  | _, _, .nil => rfl
  | _, _, .cons e r => by rw [e, refs_each r]; rfl
section
variable {P : Program} {w : World} {A : Around} {E : Value → Shared → Prop} {s : Shared}
/-- sorted of a set of rows of ints, none of them empty -/
theorem sorted_rows {a : Addr} {L : List (Addr × List Int)} {es : Array (Int × Value)} {ep : Nat} {t : SetTable} {Q : Value → Shared → Prop} (T : SetTR P w s.heap a L es ep t) (hh : A.handled = none) (hne : ∀ q ∈ L, q.2 ≠ []) (hu : A.units + 10 < cLine)
    (k : ∀ s' p (out : Array Value) (c : Nat) (M : List (Addr × List Int)), (∀ b o, s.heap.get? b = some o → s'.heap.get? b = some o) ∧ s'.gens = s.gens ∧ s'.os = s.os ∧ s.heap.objs.size ≤ p →
      s'.heap.get? p = some (seqObj "list" out c) → out.toList = M.map (fun q => Value.ref q.1) → M.Perm L → M.Pairwise (fun q r => q.2 ≤ r.2) → Q (.ref p) s') : wpAny (model P w) A (call (.builtin "sorted") [.ref a]) Q E s := by
  obtain ⟨o, ho, hex, hd⟩ := T.ob
  have hsz := T.size
  have hfew := T.few
  refine Calls.call_function_entry kind_sorted plain_sorted entry_sorted (args_sorted1 _) (show wpAny _ _ (Builtin.«sorted» _) _ _ _ from ?_)
  unfold Builtin.«sorted»; refine wpAny_bind (m := checkCount "sorted" 1 1 _) (wpAny_pure ?_)
  refine wpAny_bind (collect_set (A := A.in1) hh ⟨o, ho, hex.1, hd⟩ T.fits (by unfold scanBound; omega) T.tab.ris T.led fun s1 vs k1 hz g1 o1 pm => ?_)
  have rows : es.toList.map (·.2) = L.map fun q => Value.ref q.1 := by rw [T.rows]; unfold rowsOf; rw [List.map_map]; rfl
  obtain ⟨M, pM, rfl⟩ := perm_of_map pm rows
  have hlen : (M.map fun q => Value.ref q.1).length < 64 := by rw [List.length_map, pM.length_eq]; exact hfew
  refine wpAny_bind (wpAny_newList ?_ (by rw [sizeLine_eq]; omega))
  have at1 : (s1.heap.push (seqObj "list" (M.map fun q => Value.ref q.1).toArray 0)).get? s1.heap.objs.size = some (seqObj "list" (M.map fun q => Value.ref q.1).toArray 0) := Heap.get?_push_size _ rfl
  have rd : ∀ q ∈ M, ∃ as, Reads (s1.heap.push (seqObj "list" (M.map fun q => Value.ref q.1).toArray 0)) (.ref q.1) (.tuple (q.2.map .int)) as ∧ s1.heap.objs.size ∉ as := fun q hq => by
    obtain ⟨o', its, n, e1, e2, e3, e4⟩ := T.tup q (pM.mem_iff.mp hq)
    refine ⟨[], .tuple (Heap.get?_push_of_some _ (k1 _ _ e1)) e2 e3 ?_, by simp⟩
    have key : ∀ {ks : List Int} {us : List Value}, ItemsAre (PySem.intKind P w) ks us → ReadsAll (s1.heap.push (seqObj "list" (M.map fun q => Value.ref q.1).toArray 0)) us (ks.map PyData.int) [] := by
      intro ks us hi
      induction hi with
      | nil => exact .nil
      | cons h _ ih =>
        obtain ⟨tk, e⟩ := intKind_of h
        rw [e]
        exact ReadsAll.cons (as := []) (bs := []) (.int _ tk) ih
    exact key e4
  refine wpAny_bind (wpAny_holding (PySem.W.list_sort_data (s := { s1 with heap := s1.heap.push (seqObj "list" (M.map fun q => Value.ref q.1).toArray 0) }) (R := fun v q => v = Value.ref q.1) (enc := fun q => PyData.tuple (q.2.map .int)) at1 (each_refs fun q _ => rfl) (each_refs rd) ?_ ?_ ?_ ?_ fun out hl he => ?_))
  · exact PySem.W.AllAlike.of fun _ _ => alike_rows _ _
  · refine .inl fun d hd => ?_
    obtain ⟨q, hq, rfl⟩ := List.mem_map.mp hd
    cases e : q.2 with
    | nil => exact absurd e (hne q (pM.mem_iff.mp hq))
    | cons x r => exact ⟨.int x, r.map .int, by rw [List.map_cons]⟩
  · rw [List.length_map] at hlen; rw [sizeLine_eq]; omega
  · intro q _
    have e : (PyData.tuple (q.2.map .int)).depth = 1 := by rw [PyData.depth, PySem.W.depth_ints]
    rw [e]
    show A.in1.units + 1 + 1 < cLine
    have : A.in1.units ≤ A.units + 1 := by unfold Around.in1; simp
    omega
  · obtain ⟨c, hc⟩ := sortedHeap_at (vs := M.map fun q => Value.ref q.1) (out := out.toArray) at1
    rw [le_rows] at he
    have srt : (M.mergeSort fun p q => decide (p.2 ≤ q.2)).Pairwise (fun q r => q.2 ≤ r.2) := by
      have := List.pairwise_mergeSort (le := fun p q : Addr × List Int => decide (p.2 ≤ q.2)) (fun p q r h1 h2 => by simp only [decide_eq_true_eq] at *; exact Std.le_trans h1 h2) (fun p q => by simp only [Bool.or_eq_true, decide_eq_true_eq]; exact Std.le_total) M
      exact this.imp fun h => by simpa using h
    refine wpAny_pure ⟨_, rfl, k _ s1.heap.objs.size out.toArray c _ ⟨fun b u e => ?_, g1, o1, hz⟩ hc (by rw [refs_each he]) ((List.mergeSort_perm M _).trans pM) srt⟩
    have q := k1 b u e
    have hlt := Heap.lt_size q
    show (sortedHeap (s1.heap.push _) s1.heap.objs.size _ _).get? b = some u
    rw [sortedHeap_old (Nat.ne_of_lt hlt) (by rw [size_push']; exact Nat.lt_succ_of_lt hlt)]
    exact Heap.get?_push_of_some _ q
end
/-! ### sorted(set(rows)) -/
theorem mem_insR {k m : List Int} : ∀ {l : List (List Int)}, m ∈ insR k l ↔ m = k ∨ m ∈ l
  | [] => by simp [insR]
  | x :: l => by
    unfold insR
    split
    · rename_i e; subst e; simp
    · split
      · simp
      · simp [mem_insR (l := l)]
        constructor
        · rintro (h | h | h)
          · exact .inr (.inl h)
          · exact .inl h
          · exact .inr (.inr h)
        · rintro (h | h | h)
          · exact .inr (.inl h)
          · exact .inl h
          · exact .inr (.inr h)
theorem srt_insR {k : List Int} : ∀ {l : List (List Int)}, l.Pairwise (· < ·) → (insR k l).Pairwise (· < ·)
  | [], _ => by simp [insR]
  | x :: l, h => by
    unfold insR
    obtain ⟨h1, h2⟩ := List.pairwise_cons.mp h
    split
    · exact h
    · rename_i ne
      split
      · rename_i lt
        exact List.pairwise_cons.mpr ⟨fun y hy => by
          rcases List.mem_cons.mp hy with e | e
          · rw [e]; exact lt
          · exact List.lt_trans lt (h1 y e), h⟩
      · rename_i nl
        refine List.pairwise_cons.mpr ⟨fun y hy => ?_, srt_insR h2⟩
        rcases mem_insR.mp hy with e | e
        · rw [e]
          have hle : x ≤ k := List.not_lt.mp nl
          rcases Classical.em (x < k) with z | z
          · exact z
          · exact absurd (List.le_antisymm (List.not_lt.mp z) hle) ne
        · exact h1 y e
theorem srt_ssetR : ∀ ks : List (List Int), (ssetR ks).Pairwise (· < ·)
  | [] => .nil
  | k :: ks => srt_insR (srt_ssetR ks)
theorem mem_ssetR {m : List Int} : ∀ {ks : List (List Int)}, m ∈ ssetR ks ↔ m ∈ ks
  | [] => by simp [ssetR]
  | k :: ks => by
    show m ∈ insR k (ssetR ks) ↔ _
    rw [mem_insR, mem_ssetR, List.mem_cons]
theorem ssetR_uniq {l ks : List (List Int)} (hs : l.Pairwise (· ≤ ·)) (nd : l.Nodup) (hm : ∀ m, m ∈ l ↔ m ∈ ks) : l = ssetR ks := by
  have n2 : (ssetR ks).Nodup := (srt_ssetR ks).imp fun h e => by rw [e] at h; exact List.lt_irrefl _ h
  have p : l.Perm (ssetR ks) := (List.perm_ext_iff_of_nodup nd n2).mpr fun m => by rw [hm, mem_ssetR]
  exact p.eq_of_pairwise (fun a b _ _ h1 h2 => List.le_antisymm h1 h2) hs ((srt_ssetR ks).imp fun h => List.le_of_lt h)
section
variable {X : Cx} {K : PySem.W.Frag} {ω : Wd} {H : Hp}
def rSortS (K : PySem.W.Frag) (P : Program) (w : World) : List V → Hp → VK → Prop := fun vs H Q => ∃ (a : Addr) (L : List (Addr × List Int)), vs = [V.ref a] ∧ H a = some (SetTO P w a L) ∧ (∀ p ∈ L, SqT K H p.1 (p.2.map V.int)) ∧ (∀ p ∈ L, p.2 ≠ []) ∧
  ∀ (M : List (Addr × List Int)) (p : Addr), M.Perm L → (M.map (·.2)).Nodup → M.Pairwise (fun q r => q.2 ≤ r.2) → H p = none → Q (.ref p) (upd H p (.lst (M.map fun q => V.ref q.1)))
theorem cr_sortS (hc : X.calm = true) (hu : X.A.units + 10 < cLine) : CallR X (.builtin "sorted") (rSortS X.K X.prog X.w) := by
  intro pins s σ H vs us Q I r h
  obtain ⟨a, L, rfl, ha, hk, hne, q⟩ := h
  have R0 : SetT0 X.prog X.w s.heap a L := (I.hok a _ ha).1
  obtain ⟨es, ep, t, T⟩ := R0.full fun p hp => I.isT (hk p hp)
  rw [Vals.ref1 r]
  refine sorted_rows T (I.ok.hd hc) hne hu fun s' p out c M ⟨kp, g, o, hp⟩ hg hout pm pw => ?_
  have few : M.length < 64 := by rw [pm.length_eq]; exact T.few
  have hl : (M.map fun q => V.ref q.1).length ≤ sizeLine := by rw [List.length_map, sizeLine_eq]; omega
  have hn : H p = none := I.hok.fresh hp
  have J : Inv X pins σ (upd H p (.lst (M.map fun q => V.ref q.1))) { s with heap := s'.heap, gens := s'.gens, drawn := s'.drawn, toks := s'.toks } :=
    I.call (ch := []) (Un.laid kp hp hn) (I.hok.laid kp hp ⟨hl, out.toList, c, by rw [hout]; exact vals_of_refs M, hg⟩) (by rw [g]; exact I.bare) (fun _ z => nomatch z)
  have e : s' = { s with heap := s'.heap, gens := s'.gens, drawn := s'.drawn, toks := s'.toks } := by cases s'; cases s; cases o; rfl
  rw [e]
  exact ⟨.ref p, _, J, rfl, q M p pm ((pm.map (·.2)).nodup_iff.mpr T.nd) pw hn⟩
theorem rowsP_v : ∀ {ts : List PV} {vs : List V} {ks : List (List Int)}, RepL K ω H vs ts → rowsP ts = some ks → ∃ ps : List (Addr × List Int), vs = ps.map (fun p => V.ref p.1) ∧ ps.map (·.2) = ks ∧ ∀ p ∈ ps, SqT K H p.1 (p.2.map V.int)
  | [], _, _, .nil, h => by cases h; exact ⟨[], rfl, rfl, fun p hp => by cases hp⟩
  | t :: ts, _, ks, .cons hx r, h => by
    cases t with
    | tup xs =>
      change (match intsP xs, rowsP ts with
        | some k, some ks => some (k :: ks)
        | _, _ => none) = some ks at h
      cases q1 : intsP xs with
      | none => rw [q1] at h; cases h
      | some k =>
        cases q2 : rowsP ts with
        | none => rw [q1, q2] at h; cases h
        | some m =>
          rw [q1, q2] at h
          cases h
          obtain ⟨ps, e1, e2, e3⟩ := rowsP_v r q2
          cases hx with
          | tup ha ra =>
            rename_i a ws
            rw [intsP_v ra q1] at ha
            refine ⟨(a, k) :: ps, by rw [e1]; rfl, by rw [List.map_cons, e2], fun p hp => ?_⟩
            rcases List.mem_cons.mp hp with z | z
            · rw [z]; exact ha
            · exact e3 p z
    | _ => cases h
theorem ints_rep : ∀ ns : List Int, RepL K ω H (ns.map V.int) (ns.map PV.int)
  | [] => .nil
  | n :: ns => .cons (.int n) (ints_rep ns)
theorem rows_rep : ∀ {ps : List (Addr × List Int)}, (∀ p ∈ ps, SqT K H p.1 (p.2.map V.int)) → RepL K ω H (ps.map fun p => V.ref p.1) ((ps.map (·.2)).map fun k => PV.tup (k.map .int))
  | [], _ => .nil
  | p :: ps, h => .cons (.tup (h p (List.mem_cons_self ..)) (ints_rep p.2)) (rows_rep fun q hq => h q (List.mem_cons_of_mem _ hq))
def rSS (K : PySem.W.Frag) (P : Program) (w : World) : V → Hp → VK → Prop := fun x H Q => rSetOfT K P w [x] H fun y H1 => rSortS K P w [y] H1 Q
theorem vr_sset {P : Program} {w : World} : VR1 K true (rSS K P w) (fun _ => ssetV) := by
  intro st x t z ω H Q c hx hv q
  dsimp only at hv
  cases t with
  | lst xs =>
    change (match rowsP xs with
      | some ks => if ks.length < 64 && ks.all (fun k => !k.isEmpty) then some (PV.lst ((ssetR ks).map fun k => .tup (k.map .int))) else none
      | none => none) = some z at hv
    cases e : rowsP xs with
    | none => rw [e] at hv; cases hv
    | some ks =>
      rw [e] at hv
      dsimp only at hv
      split at hv
      · rename_i hz
        cases hv
        rw [Bool.and_eq_true, decide_eq_true_eq] at hz
        obtain ⟨a, vs, rfl, ha, ra⟩ := hx.lst
        obtain ⟨ps, rfl, rfl, hs⟩ := rowsP_v ra e
        have ne : ∀ p ∈ ps, p.2 ≠ [] := fun p hp => by
          have := List.all_eq_true.mp hz.2 p.2 (List.mem_map.mpr ⟨p, hp, rfl⟩)
          simpa using this
        refine ⟨a, ps, rfl, .inl (.inl ha), hs, by simpa using hz.1, fun a' L hn sub all => ?_⟩
        have gr : Grow ω H ω (upd H a' (SetTO P w a' L)) := Grow.upd hn
        refine ⟨a', L, rfl, upd_same, fun p hp => gr.ext.sqT (hs p (sub p hp)), fun p hp => ne p (sub p hp), fun M p pm nd pw hp => ?_⟩
        have eM : M.map (·.2) = ssetR (ps.map (·.2)) := by
          refine ssetR_uniq (List.pairwise_map.mpr pw) nd fun m => ?_
          constructor
          · intro hm
            obtain ⟨r, hr, rfl⟩ := List.mem_map.mp hm
            exact List.mem_map.mpr ⟨r, sub r (pm.mem_iff.mp hr), rfl⟩
          · intro hm
            obtain ⟨r, hr, rfl⟩ := List.mem_map.mp hm
            exact (pm.map (·.2)).mem_iff.mpr (all r hr)
        have rr : RepL K ω (upd H a' (SetTO P w a' L)) (M.map fun p => V.ref p.1) ((ssetR (ps.map (·.2))).map fun k => PV.tup (k.map .int)) := by
          rw [← eM]
          exact rows_rep fun p hp => gr.ext.sqT (hs p (sub p (pm.mem_iff.mp hp)))
        exact newLst rr (fun y H' ω' g2 rp => q y H' ω' (gr.trans g2) rp) p hp
      · cases hv
  | _ => cases hv
end
end Ev
namespace Ev
open PySem PySem.Spec PyProof.Rows L2
section
variable {X : Cx} {K : PySem.W.Frag} {ω : Wd} {H : Hp}
/-! ### sorted(list of data) -/
def rSortD (K : PySem.W.Frag) : List V → Hp → VK → Prop := fun vs H Q => ∃ (a : Addr) (ws : List V) (ds : List PyData), vs = [V.ref a] ∧ SqL K H a ws ∧ DpAll K H ws ds ∧ PySem.W.AllAlike ds ∧ PySem.W.Sortable ds ∧ (∀ d ∈ ds, d.depth ≤ 50) ∧
  ∀ p, H p = none → Q (.ref p) (upd H p (.lst (((ws.zip ds).mergeSort (PySem.W.dataLe false (fun q => q.2))).map (·.1))))
theorem dp_len : ∀ {ws : List V} {ds : List PyData}, DpAll K H ws ds → ws.length = ds.length
  | _, _, .nil => rfl
  | _, _, .cons _ r => by rw [List.length_cons, List.length_cons, dp_len r]
theorem zip_snd {α β : Type} : ∀ {l : List α} {m : List β}, l.length = m.length → (l.zip m).map (·.2) = m
  | [], [], _ => rfl
  | a :: l, b :: m, h => by rw [List.zip_cons_cons, List.map_cons, zip_snd (by simpa using h)]
  | [], b :: m, h => by simp at h
  | a :: l, [], h => by simp at h
theorem vals_each : ∀ {ws : List V} {us : List Value} {ds : List PyData}, Vals ws us → ws.length = ds.length → PySem.W.EachIs (fun v (q : V × PyData) => RelV q.1 v) us (ws.zip ds)
  | _, _, [], .nil, _ => .nil
  | _, _, d :: ds, .cons r t, h => .cons r (vals_each t (by simpa using h))
  | _, _, [], .cons r t, h => by simp at h
  | _, _, d :: ds, .nil, h => by simp at h
theorem each_vals : ∀ {us : List Value} {qs : List (V × PyData)}, PySem.W.EachIs (fun v (q : V × PyData) => RelV q.1 v) us qs → Vals (qs.map (·.1)) us
  | _, _, .nil => .nil
  | _, _, .cons r t => .cons r (each_vals t)
theorem reads_each {pins : List (Addr × Obj)} {σ : L2.St} {s : Shared} (I : L2.Inv X pins σ H s) : ∀ {ws : List V} {us : List Value} {ds : List PyData}, Vals ws us → DpAll X.K H ws ds → PySem.W.EachIs (fun v (q : V × PyData) => ∃ as, Reads s.heap v q.2 as) us (ws.zip ds)
  | _, _, _, .nil, .nil => .nil
  | _, _, _, .cons r t, .cons d ds => .cons (Dp.reads I _ _ _ d r) (reads_each I t ds)
theorem cr_sortD (hu : X.A.units + 60 < cLine) : CallR X (.builtin "sorted") (rSortD X.K) := by
  intro pins s σ H vs us Q I r h
  obtain ⟨a, ws, ds, rfl, hl, hd, al, so, dp, q⟩ := h
  rw [Vals.ref1 r]
  obtain ⟨its, rv, pl, hz⟩ := I.list hl
  have len := dp_len hd
  have e2 := zip_snd len
  have hlz : (ws.zip ds).length = ws.length := by rw [List.length_zip, ← len, Nat.min_self]
  refine PySem.W.sorted_data (R := fun v (q : V × PyData) => RelV q.1 v) (enc := fun q : V × PyData => q.2) (vs := its) (bs := ws.zip ds) (by simpa using pl.isList) (vals_each rv len) (reads_each I rv hd) (by rw [e2]; exact al) (by rw [e2]; exact so) (by rw [hlz]; exact hz) (fun b hb => ?_) fun out hlen he => ?_
  · have := dp b.2 (by rw [← e2]; exact List.mem_map.mpr ⟨b, hb, rfl⟩)
    omega
  · have hn : H (s.heap.objs.size + 1) = none := I.hok.fresh (Nat.le_succ _)
    obtain ⟨c, hg⟩ := sortedAll_at s.heap its out.toArray
    have ob : ObjOk X.prog X.w (upd H (s.heap.objs.size + 1) (.lst (((ws.zip ds).mergeSort (PySem.W.dataLe false (fun q => q.2))).map (·.1)))) (sortedAll s.heap its out.toArray) (s.heap.objs.size + 1) (.lst (((ws.zip ds).mergeSort (PySem.W.dataLe false (fun q => q.2))).map (·.1))) := ⟨?_, out, c, each_vals he, hg⟩
    exact ⟨.ref (s.heap.objs.size + 1), _, I.laid (t' := s.toks) (fun b o e => sortedAll_old e) (Nat.le_succ _) ob, rfl, q _ hn⟩
    rw [List.length_map, List.length_mergeSort, hlz]
    exact hz
theorem sortB_of {ds : List PyData} (h : sortB ds = true) : PySem.W.Sortable ds := by
  unfold sortB at h
  rw [Bool.or_eq_true] at h
  rcases h with h | h
  · refine .inl fun d hd => ?_
    have z := List.all_eq_true.mp h d hd
    match d, z with
    | .tuple (x :: r), _ => exact ⟨x, r, rfl⟩
  · refine .inr fun d hd => ?_
    have z := List.all_eq_true.mp h d hd
    match d, z with
    | .bool _, _ => exact ⟨nofun, nofun⟩
    | .int _, _ => exact ⟨nofun, nofun⟩
    | .str _, _ => exact ⟨nofun, nofun⟩
    | .list _, _ => exact ⟨nofun, nofun⟩
    | .dict _, _ => exact ⟨nofun, nofun⟩
theorem repl_zip : ∀ {vs : List V} {ts : List PV} {l : List (V × PV)}, (∀ p ∈ l, Rep K ω H p.1 p.2) → RepL K ω H (l.map (·.1)) (l.map (·.2))
  | _, _, [], _ => .nil
  | _, _, p :: l, h => .cons (h p (List.mem_cons_self ..)) (repl_zip (vs := []) (ts := []) fun q hq => h q (List.mem_cons_of_mem _ hq))
theorem repl_mem : ∀ {vs : List V} {ts : List PV}, RepL K ω H vs ts → ∀ p ∈ vs.zip ts, Rep K ω H p.1 p.2
  | _, _, .nil, p, hp => by simp at hp
  | _, _, .cons h r, p, hp => by
    rw [List.zip_cons_cons] at hp
    rcases List.mem_cons.mp hp with z | z
    · rw [z]; exact h
    · exact repl_mem r p z
theorem zip3 {α β γ : Type} : ∀ {l : List α} {m : List β} {n : List γ}, l.length = m.length → m.length = n.length → ((l.zip m).zip n).map (fun q => (q.1.1, q.2)) = l.zip n ∧ ((l.zip m).zip n).map (fun q => (q.1.2, q.2)) = m.zip n ∧ ∀ q ∈ (l.zip m).zip n, q.1 ∈ l.zip m
  | [], [], [], _, _ => by simp
  | a :: l, b :: m, c :: n, h1, h2 => by
    obtain ⟨e1, e2, e3⟩ := zip3 (l := l) (m := m) (n := n) (by simpa using h1) (by simpa using h2)
    refine ⟨by simp [e1], by simp [e2], fun q hq => ?_⟩
    rw [List.zip_cons_cons, List.zip_cons_cons] at hq
    rcases List.mem_cons.mp hq with z | z
    · rw [z]; exact List.mem_cons_self ..
    · exact List.mem_cons_of_mem _ (e3 q z)
  | [], b :: m, n, h1, h2 => by simp at h1
  | a :: l, [], n, h1, h2 => by simp at h1
  | [], [], c :: n, h1, h2 => by simp at h2
  | a :: l, b :: m, [], h1, h2 => by simp at h2
theorem vr_sorted : VR1 K true (rC1 (rSortD K)) (fun _ => sortedV) := by
  intro st x t z ω H Q c hx hv q
  dsimp only at hv
  cases t with
  | lst xs =>
    change (match PV.dataL xs with
      | some ds => if alikeB ds && sortB ds && ds.all (fun d => decide (d.depth ≤ 50)) then some (PV.lst (sortP (xs.zip ds))) else none
      | none => none) = some z at hv
    cases e : PV.dataL xs with
    | none => rw [e] at hv; cases hv
    | some ds =>
      rw [e] at hv
      dsimp only at hv
      split at hv
      · rename_i hz
        cases hv
        simp only [Bool.and_eq_true] at hz
        obtain ⟨a, vs, rfl, ha, ra⟩ := hx.lst
        have hd : DpAll K H vs ds := ra.dp e
        have l1 : vs.length = xs.length := ra.length
        have l2 : xs.length = ds.length := by rw [← l1, dp_len hd]
        refine ⟨a, vs, ds, rfl, .inl (.inl ha), hd, fun d hd d' hd' => ?_, sortB_of hz.1.2, fun d hd => ?_, fun p hp => ?_⟩
        · exact List.all_eq_true.mp (List.all_eq_true.mp hz.1.1 d hd) d' hd'
        · exact of_decide_eq_true (List.all_eq_true.mp hz.2 d hd)
        · obtain ⟨e1, e2, e3⟩ := zip3 l1 l2
          have m1 : ((vs.zip ds).mergeSort (PySem.W.dataLe false (fun q => q.2))).map (·.1) = (((vs.zip xs).zip ds).mergeSort (PySem.W.dataLe false (fun q => q.2))).map (fun q => q.1.1) := by
            rw [← e1, ← List.map_mergeSort (f := fun q : (V × PV) × PyData => (q.1.1, q.2)) (r := PySem.W.dataLe false (fun q : (V × PV) × PyData => q.2)) (fun a _ b _ => rfl), List.map_map]
            rfl
          have m2 : sortP (xs.zip ds) = (((vs.zip xs).zip ds).mergeSort (PySem.W.dataLe false (fun q => q.2))).map (fun q => q.1.2) := by
            unfold sortP
            rw [← e2, ← List.map_mergeSort (f := fun q : (V × PV) × PyData => (q.1.2, q.2)) (r := PySem.W.dataLe false (fun q : (V × PV) × PyData => q.2)) (fun a _ b _ => rfl), List.map_map]
            rfl
          rw [m1]
          rw [m2] at q
          have rr := repl_zip (K := K) (ω := ω) (H := H) (vs := []) (ts := []) (l := (((vs.zip xs).zip ds).mergeSort (PySem.W.dataLe false (fun q => q.2))).map (·.1)) (fun p hp => by
            obtain ⟨u, hu, rfl⟩ := List.mem_map.mp hp
            exact repl_mem ra u.1 (e3 u (List.mem_mergeSort.mp hu)))
          rw [List.map_map, List.map_map] at rr
          exact newLst rr q p hp
      · cases hv
  | _ => cases hv
end
end Ev
namespace Ev
open PySem L2
section
variable {K : PySem.W.Frag} {g : Gh} {ω ω' : Wd} {ρ : En} {st st' : Cel} {σ : St} {H H' : Hp} {W : Wx} {X : Cx} {e a b : Expr}
/-! ### tests -/
theorem st_val {f : En → Cel → R PV} {bz : Bool} (hpt : ∀ t, PE X e t → PT X e (tB t)) (h : PE X e (tv X.K bz W f)) : PT X e (tvbb X.K W (asB f)) := by
  refine wPT (hpt _ h) fun σ H Q ⟨g, ω, ρ, st, rel, q⟩ => (bindG (P := RepM X.K bz) (f := f) rel q).mono fun x H1 ⟨ω1, st1, t, x1, rel1, p, q⟩ => ?_
  cases t with
  | bl c => exact ⟨c, p.bl, postOk rel1 q rfl⟩
  | _ => exact q.elim
theorem st_cmp {f : En → Cel → R PV} {t : TE} (hpt : PT X e (tTest t)) (hw : ∀ σ H Q, tv X.K false W f σ H Q → t σ H Q) : PT X e (tvbb X.K W (asB f)) := by
  refine wPT hpt fun σ H Q ⟨g, ω, ρ, st, rel, q⟩ => hw _ _ _ ((bindG (P := RepM X.K false) (f := f) rel q).mono fun x H1 ⟨ω1, st1, t, x1, rel1, p, q⟩ => ?_)
  cases t with
  | bl c => exact ⟨c, p.bl, postOk rel1 q rfl⟩
  | _ => exact q.elim
theorem asB_not (f : En → Cel → R PV) (ρ : En) (st : Cel) : asB (fun ρ st => (f ρ st).bind fun x st => R.of (notV x) st) ρ st = (asB f ρ st).bind fun b st => .ok (!b) st := by
  unfold asB
  dsimp only
  cases f ρ st with
  | ok x st => cases x <;> rfl
  | exc e st => rfl
  | bad => rfl
theorem st_not {f : En → Cel → R PV} (hpt : ∀ t, PT X a t → PT X e (tNot t)) (h : PT X a (tvbb X.K W (asB f))) : PT X e (tvbb X.K W (asB fun ρ st => (f ρ st).bind fun x st => R.of (notV x) st)) := by
  refine wPT (hpt _ h) fun σ H Q ⟨g, ω, ρ, st, rel, q⟩ => ?_
  rw [asB_not] at q
  exact (bindG (P := RBB) (f := asB f) rel q).mono fun x H1 ⟨ω1, st1, t, x1, rel1, p, q⟩ => by
    cases (show t = x from p)
    exact postOk rel1 q rfl
theorem asB_and (f f' : En → Cel → R PV) (ρ : En) (st : Cel) : asB (fun ρ st => (f ρ st).bind fun x st => match x with
      | .bl true => f' ρ st
      | .bl false => .ok (.bl false) st
      | _ => .bad) ρ st = (asB f ρ st).bind fun b st => if b then asB f' ρ st else .ok false st := by
  unfold asB
  dsimp only
  cases f ρ st with
  | ok x st =>
    cases x <;> try rfl
    rename_i b
    cases b <;> rfl
  | exc e st => rfl
  | bad => rfl
theorem asB_or (f f' : En → Cel → R PV) (ρ : En) (st : Cel) : asB (fun ρ st => (f ρ st).bind fun x st => match x with
      | .bl true => .ok (.bl true) st
      | .bl false => f' ρ st
      | _ => .bad) ρ st = (asB f ρ st).bind fun b st => if b then .ok true st else asB f' ρ st := by
  unfold asB
  dsimp only
  cases f ρ st with
  | ok x st =>
    cases x <;> try rfl
    rename_i b
    cases b <;> rfl
  | exc e st => rfl
  | bad => rfl
theorem wPW {e : Expr} {t t' : TT} (h : PW X e t) (i : ∀ σ H Q, t' σ H Q → t σ H Q) : PW X e t' := ⟨fun whole pins s σ H Q I q => h.run whole pins s σ H Q I (i _ _ _ q)⟩
theorem sw_and {f f' : En → Cel → R PV} (hpt : ∀ t u, PT X a t → PW X b u → PW X e (tAnd t u)) (h : PT X a (tvbb X.K W (asB f))) (h' : PW X b (tvbb X.K W (asB f'))) :
    PW X e (tvbb X.K W (asB fun ρ st => (f ρ st).bind fun x st => match x with
      | .bl true => f' ρ st
      | .bl false => .ok (.bl false) st
      | _ => .bad)) := by
  refine wPW (hpt _ _ h h') fun σ H Q ⟨g, ω, ρ, st, rel, q⟩ => ?_
  rw [asB_and] at q
  refine (bindG (P := RBB) (f := asB f) rel q).mono fun x H1 ⟨ω1, st1, t, x1, rel1, p, q⟩ => ?_
  cases (show t = x from p)
  cases x with
  | true => exact ⟨g, ω1, ρ, st1, rel1, q⟩
  | false => exact postOk rel1 q rfl
theorem sw_or {f f' : En → Cel → R PV} (hpt : ∀ t u, PT X a t → PW X b u → PW X e (tOr t u)) (h : PT X a (tvbb X.K W (asB f))) (h' : PW X b (tvbb X.K W (asB f'))) :
    PW X e (tvbb X.K W (asB fun ρ st => (f ρ st).bind fun x st => match x with
      | .bl true => .ok (.bl true) st
      | .bl false => f' ρ st
      | _ => .bad)) := by
  refine wPW (hpt _ _ h h') fun σ H Q ⟨g, ω, ρ, st, rel, q⟩ => ?_
  rw [asB_or] at q
  refine (bindG (P := RBB) (f := asB f) rel q).mono fun x H1 ⟨ω1, st1, t, x1, rel1, p, q⟩ => ?_
  cases (show t = x from p)
  cases x with
  | true => exact postOk rel1 q rfl
  | false => exact ⟨g, ω1, ρ, st1, rel1, q⟩
/-- a clause's tests -/
theorem sts_nil : PTs X [] (tvbb X.K W fun _ st => .ok true st) := wPTs pts_nil fun σ H Q ⟨g, ω, ρ, st, rel, q⟩ => postOk rel q rfl
theorem sts_one {f : En → Cel → R PV} (h : PT X e (tvbb X.K W (asB f))) : PTs X [e] (tvbb X.K W (asB f)) := pts_one h
/-! ### slices -/
theorem so_nil : PO X none (tvo X.K W fun _ st => .ok none st) := wPO po_none fun σ H Q ⟨g, ω, ρ, st, rel, q⟩ => by
  exact postOk (x := (none : Option Int)) rel q rfl
theorem so_one {f : En → Cel → R PV} (h : PE X e (tv X.K false W f)) : PO X (some e) (tvo X.K W fun ρ st => (f ρ st).bind fun x st => match x with
    | .int i => .ok (some i) st
    | _ => .bad) := by
  refine wPO (po_some h) fun σ H Q ⟨g, ω, ρ, st, rel, q⟩ => (bindG (P := RepM X.K false) (f := f) rel q).mono fun x H1 ⟨ω1, st1, t, x1, rel1, p, q⟩ => ?_
  cases t with
  | int i => exact ⟨i, p.int, postOk (x := some i) rel1 q rfl⟩
  | _ => exact q.elim
abbrev rSlV (K : PySem.W.Frag) : V → Option Int → Option Int → Hp → VK → Prop := fun x lo hi H Q => rSlL K x lo hi H Q ∨ (rSlA K x lo hi H Q ∨ rSlS x lo hi H Q)
theorem se_sl {f : En → Cel → R PV} {fl fh : En → Cel → R (Option Int)} {lo hi : Option Expr} {bz : Bool} (hpe : ∀ ta tl th, PE X a ta → PO X lo tl → PO X hi th → PE X e (tSl (rSlV X.K) ta tl th)) (ha : PE X a (tv X.K true W f)) (hl : PO X lo (tvo X.K W fl)) (hh : PO X hi (tvo X.K W fh)) :
    PE X e (tv X.K bz W fun ρ st => (f ρ st).bind fun x st => (fl ρ st).bind fun l st => (fh ρ st).bind fun h st => R.of (slV x l h) st) := by
  refine wPE (hpe _ _ _ ha hl hh) fun σ H Q ⟨g, ω, ρ, st, rel, q⟩ => (bindG (P := RepM X.K true) (f := f) rel q).mono fun x H1 ⟨ω1, st1, t, x1, rel1, p, q⟩ => ?_
  refine (bindG (P := RO) (f := fl) rel1 q).mono fun l H2 ⟨ω2, st2, l', x2, rel2, p2, q2⟩ => ?_
  refine (bindG (P := RO) (f := fh) rel2 q2).mono fun h H3 ⟨ω3, st3, h', x3, rel3, p3, q3⟩ => ?_
  cases (show l' = l from p2)
  cases (show h' = h from p3)
  have pp := (p.extE x2 rel1.cells).extE x3 rel2.cells
  obtain ⟨z, ez, qz⟩ := of_post rel3 q3
  unfold slV at ez
  split at ez
  · cases ez
    obtain ⟨a, vs, rfl, ha, ra⟩ := pp.lst
    exact .inl ⟨a, vs, rfl, .inl (.inl ha), newLst (ra.cut l h) qz⟩
  · cases ez
    obtain ⟨a, vs, rfl, ha, ra⟩ := pp.rol
    exact .inl ⟨a, vs, rfl, ha, newLst (ra.cut l h) qz⟩
  · cases ez
    obtain ⟨a, vs, rfl, ha, ra⟩ := pp.tup
    refine .inr (.inl ⟨a, vs, rfl, ha, fun z => ?_, fun _ => newTup (ra.cut l h) qz⟩)
    refine qz _ _ ω3 (Grow.refl _ _) (.tup ha ?_)
    have e1 : cutV vs l h = vs := by
      unfold cutV
      rw [z.1, z.2]
      simp
    have := ra.cut l h
    rw [e1] at this
    exact this
  · split at ez
    · rename_i hz
      cases ez
      exact .inr (.inr ⟨_, pp.str, szOk_le hz, qz _ _ ω3 (Grow.refl _ _) (.str _)⟩)
    · cases ez
  · cases ez
/-! ### isinstance -/
theorem tyx {t : PV} {x : V} {ty : Ty} {k : Bool} (h : RepM K true ω H x t) (e : isaV t ty = some k) : ∃ n, TyX K H x (.type n) ∧ kitB n (tyS ty) = some k := by
  cases t with
  | non =>
    refine ⟨"NoneType", ?_, ?_⟩
    · rw [h.non]; exact .base .non
    · cases ty <;> (cases e; decide +kernel)
  | bl c =>
    refine ⟨"bool", ?_, ?_⟩
    · rw [h.bl]; exact .base (.bl c)
    · cases ty <;> (cases e; decide +kernel)
  | int i =>
    refine ⟨"int", ?_, ?_⟩
    · rw [h.int]; exact .base (.int i)
    · cases ty <;> (cases e; decide +kernel)
  | str i =>
    refine ⟨"str", ?_, ?_⟩
    · rw [h.str]; exact .base (.str i)
    · cases ty <;> (cases e; decide +kernel)
  | tup ts =>
    obtain ⟨a, vs, rfl, ha, ra⟩ := h.tup
    refine ⟨"tuple", ?_, ?_⟩
    · rcases ha with (ha | ⟨o, ha⟩) | ⟨o, _, _, ho, hc, _⟩
      · exact .base (.tup ha)
      · exact .fTuple ha
      · exact .kTuple ho hc
    · cases ty <;> (cases e; decide +kernel)
  | lst ts =>
    obtain ⟨a, vs, rfl, ha, ra⟩ := h.lst
    refine ⟨"list", .base (.lst ha), ?_⟩
    cases ty <;> (cases e; decide +kernel)
  | rol ts => cases ty <;> cases e
  | cell k => cases ty <;> cases e
  | dct ks ts => cases ty <;> cases e
  | dtt ks ts => cases ty <;> cases e
  | obj cn ks ts => cases ty <;> cases e
theorem tyx2 {t : PV} {x : V} {ty tz : Ty} {k : Bool} (h : RepM K true ω H x t) (e : isa2V t ty tz = some k) : ∃ n c d, TyX K H x (.type n) ∧ kitB n (tyS ty) = some c ∧ kitB n (tyS tz) = some d ∧ k = (c || d) := by
  unfold isa2V at e
  cases e1 : isaV t ty with
  | none => rw [e1] at e; cases e
  | some c =>
    cases e2 : isaV t tz with
    | none => rw [e1, e2] at e; cases e
    | some d =>
      rw [e1, e2] at e
      cases e
      cases t with
      | non =>
        refine ⟨"NoneType", c, d, ?_, ?_, ?_, rfl⟩
        · rw [h.non]; exact .base .non
        · cases ty <;> (cases e1; decide +kernel)
        · cases tz <;> (cases e2; decide +kernel)
      | bl _ =>
        refine ⟨"bool", c, d, ?_, ?_, ?_, rfl⟩
        · rw [h.bl]; exact .base (.bl _)
        · cases ty <;> (cases e1; decide +kernel)
        · cases tz <;> (cases e2; decide +kernel)
      | int i =>
        refine ⟨"int", c, d, ?_, ?_, ?_, rfl⟩
        · rw [h.int]; exact .base (.int i)
        · cases ty <;> (cases e1; decide +kernel)
        · cases tz <;> (cases e2; decide +kernel)
      | str i =>
        refine ⟨"str", c, d, ?_, ?_, ?_, rfl⟩
        · rw [h.str]; exact .base (.str i)
        · cases ty <;> (cases e1; decide +kernel)
        · cases tz <;> (cases e2; decide +kernel)
      | tup ts =>
        obtain ⟨a, vs, rfl, ha, ra⟩ := h.tup
        refine ⟨"tuple", c, d, ?_, ?_, ?_, rfl⟩
        · rcases ha with (ha | ⟨o, ha⟩) | ⟨o, _, _, ho, hc, _⟩
          · exact .base (.tup ha)
          · exact .fTuple ha
          · exact .kTuple ho hc
        · cases ty <;> (cases e1; decide +kernel)
        · cases tz <;> (cases e2; decide +kernel)
      | lst ts =>
        obtain ⟨a, vs, rfl, ha, ra⟩ := h.lst
        refine ⟨"list", c, d, .base (.lst ha), ?_, ?_, rfl⟩
        · cases ty <;> (cases e1; decide +kernel)
        · cases tz <;> (cases e2; decide +kernel)
      | rol ts => cases ty <;> cases e1
      | cell k => cases ty <;> cases e1
      | dct ks ts => cases ty <;> cases e1
      | dtt ks ts => cases ty <;> cases e1
      | obj cn ks ts => cases ty <;> cases e1
end
end Ev
namespace Ev
open PySem L2
section
variable {K : PySem.W.Frag} {g : Gh} {ω ω' : Wd} {ρ : En} {st st' : Cel} {σ : St} {H H' : Hp} {W : Wx} {X : Cx} {e a b : Expr}
/-! ### targets -/
theorem get_set {α : Type} {l : List α} {i j : Nat} {x y : α} (h : (l.set i x)[j]? = some y) : (i = j ∧ x = y) ∨ (i ≠ j ∧ l[j]? = some y) := by
  by_cases e : i = j
  · subst e
    by_cases hi : i < l.length
    · rw [List.getElem?_set_self hi] at h; exact .inl ⟨rfl, Option.some.inj h⟩
    · rw [List.getElem?_eq_none (by simpa using hi)] at h; cases h
  · rw [List.getElem?_set_ne e] at h; exact .inr ⟨e, h⟩
theorem lt_of_set {α : Type} {l : List α} {i : Nat} {x y : α} (h : (l.set i x)[i]? = some y) : i < l.length := by
  rcases Nat.lt_or_ge i l.length with z | z
  · exact z
  · rw [List.getElem?_eq_none (by simpa using z)] at h; cases h
theorem Rel.set (r : Rel K g ω ρ st σ H) (i : Nat) {v : V} {t : PV} (h : Rep K ω H v t) : Rel K g ω (set1 ρ i t) st (σ.set i (some v)) H := by
  unfold set1
  refine ⟨by simp [r.len], fun j u hj => ?_, fun j u hj => ?_, fun j k u w a hj hk h1 h2 => ?_, r.cells, r.base, r.sub, r.new, r.csp, r.csn, r.cs0⟩
  · rcases get_set hj with ⟨rfl, e⟩ | ⟨ne, e⟩
    · cases e
      exact ⟨v, by rw [List.getElem?_set_self (by rw [r.len]; exact lt_of_set hj)], h⟩
    · obtain ⟨v', e1, r1⟩ := r.val j u e
      exact ⟨v', by rw [List.getElem?_set_ne ne]; exact e1, r1⟩
  · rcases get_set hj with ⟨rfl, e⟩ | ⟨ne, e⟩
    · cases e
    · obtain ⟨a, e1, r1⟩ := r.own j u e
      exact ⟨a, by rw [List.getElem?_set_ne ne]; exact e1, r1⟩
  · rcases get_set hj with ⟨rfl, e⟩ | ⟨ne, e⟩
    · cases e
    · rcases get_set hk with ⟨rfl, e'⟩ | ⟨ne', e'⟩
      · cases e'
      · rw [List.getElem?_set_ne ne] at h1
        rw [List.getElem?_set_ne ne'] at h2
        exact r.sep j k u w a e e' h1 h2
theorem Rel.emp (r : Rel K g ω ρ st σ H) (i : Nat) : Rel K g ω (ρ.set i .emp) st (σ.set i none) H := by
  refine ⟨by simp [r.len], fun j u hj => ?_, fun j u hj => ?_, fun j k u w a hj hk h1 h2 => ?_, r.cells, r.base, r.sub, r.new, r.csp, r.csn, r.cs0⟩
  · rcases get_set hj with ⟨rfl, e⟩ | ⟨ne, e⟩
    · cases e
    · obtain ⟨v', e1, r1⟩ := r.val j u e
      exact ⟨v', by rw [List.getElem?_set_ne ne]; exact e1, r1⟩
  · rcases get_set hj with ⟨rfl, e⟩ | ⟨ne, e⟩
    · cases e
    · obtain ⟨a, e1, r1⟩ := r.own j u e
      exact ⟨a, by rw [List.getElem?_set_ne ne]; exact e1, r1⟩
  · rcases get_set hj with ⟨rfl, e⟩ | ⟨ne, e⟩
    · cases e
    · rcases get_set hk with ⟨rfl, e'⟩ | ⟨ne', e'⟩
      · cases e'
      · rw [List.getElem?_set_ne ne] at h1
        rw [List.getElem?_set_ne ne'] at h2
        exact r.sep j k u w a e e' h1 h2
theorem Rel.wipe (r : Rel K g ω ρ st σ H) : ∀ vs : List Nat, Rel K g ω (wipeE ρ vs) st (L2.wipe σ vs) H
  | [] => r
  | v :: vs => (Rel.wipe r vs).emp v
def gNames : List Nat → TGs
  | [] => gNil
  | i :: is => gCons (gName i) (gNames is)
/-- how many things stand at the top of a target -/
def topN : Nat → List Nat → Nat
  | 0, _ => 0
  | _ + 1, [] => 0
  | n + 1, i :: is => if i < 1000 then topN n is + 1 else topN n (is.drop (i - 1000)) + 1
def gNest (K : PySem.W.Frag) : Nat → List Nat → TGs
  | 0, _ => gNil
  | _ + 1, [] => gNil
  | n + 1, i :: is => if i < 1000 then gCons (gName i) (gNest K n is) else gCons (gTup K (i - 1000) (gNames (is.take (i - 1000)))) (gNest K n (is.drop (i - 1000)))
def gAsg (K : PySem.W.Frag) (tg : List Nat) : TG := match tg with
  | [i] => gName i
  | is => if nested is then gTup K (topN is.length is) (gNest K is.length is) else fun v σ H Q => gTup K is.length (gNames is) v σ H Q ∨ gUnl K is.length (gNames is) v σ H Q
theorem pg_or {e : Expr} {t t' : TG} (h : PG X e t) (h' : PG X e t') : PG X e (fun v σ H Q => t v σ H Q ∨ t' v σ H Q) := ⟨fun pins s σ H v u Q I r q => q.elim (fun q => h.run pins s σ H v u Q I r q) (fun q => h'.run pins s σ H v u Q I r q)⟩
def setAll (ρ : En) (ps : List (Nat × PV)) : En := ps.foldl (fun ρ p => set1 ρ p.1 p.2) ρ
/-- the slots that a target writes -/
def setS (σ : St) : List Nat → List V → St
  | i :: is, v :: vs => setS (σ.set i (some v)) is vs
  | _, _ => σ
theorem gNames_ok : ∀ (is : List Nat) {vs : List V} {ts : List PV} {ρ : En} {σ : St} {Q : St → Hp → Prop}, Rel K g ω ρ st σ H → RepL K ω H vs ts → vs.length = is.length →
    (Rel K g ω (setAll ρ (is.zip ts)) st (setS σ is vs) H → Q (setS σ is vs) H) → gNames is vs σ H Q
  | [], _, _, _, _, _, r, .nil, _, q => ⟨rfl, q r⟩
  | i :: is, _, _, ρ, σ, Q, r, .cons h hs, hl, q => ⟨_, _, rfl, gNames_ok is (r.set i h) hs (by simpa using hl) q⟩
theorem setS_app : ∀ (is js : List Nat) (vs ws : List V) (σ : St), vs.length = is.length → setS σ (is ++ js) (vs ++ ws) = setS (setS σ is vs) js ws
  | [], js, [], ws, σ, _ => rfl
  | i :: is, js, v :: vs, ws, σ, h => by
    show setS (σ.set i (some v)) (is ++ js) (vs ++ ws) = setS (setS (σ.set i (some v)) is vs) js ws
    exact setS_app is js vs ws _ (by simpa using h)
  | [], _, _ :: _, _, _, h => by cases h
  | _ :: _, _, [], _, _, h => by cases h
theorem flT_low {is : List Nat} (h : ∀ i ∈ is, i < 1000) : flT is = is := by
  unfold flT
  rw [List.filter_eq_self]
  exact fun i hi => decide_eq_true (h i hi)
theorem setAll_app (ρ : En) (ps qs : List (Nat × PV)) : setAll ρ (ps ++ qs) = setAll (setAll ρ ps) qs := by
  unfold setAll
  rw [List.foldl_append]
theorem gNest_ok : ∀ (n : Nat) (is : List Nat) {vs : List V} {ts ys : List PV} {ρ : En} {σ : St} {Q : St → Hp → Prop}, grpOk n is = true → Rel K g ω ρ st σ H → RepL K ω H vs ts → flatG is ts = some ys →
    (∀ ws, RepL K ω H ws ys → ws.length = (flT is).length → Rel K g ω (setAll ρ ((flT is).zip ys)) st (setS σ (flT is) ws) H → Q (setS σ (flT is) ws) H) → gNest K n is vs σ H Q ∧ vs.length = topN n is
  | 0, [], _, ts, ys, _, _, _, _, r, rv, e, q => by
    cases ts with
    | nil => cases rv; cases e; exact ⟨⟨rfl, q [] .nil rfl r⟩, rfl⟩
    | cons _ _ => cases e
  | _ + 1, [], _, ts, ys, _, _, _, _, r, rv, e, q => by
    cases ts with
    | nil => cases rv; cases e; exact ⟨⟨rfl, q [] .nil rfl r⟩, rfl⟩
    | cons _ _ => cases e
  | 0, _ :: _, _, _, _, _, _, _, hg, _, _, _, _ => by cases hg
  | n + 1, i :: is, _, ts, ys, ρ, σ, Q, hg, r, rv, e, q => by
    cases rv with
    | nil => cases e
    | @cons v vs t ts h hs =>
      unfold flatG at e
      unfold gNest topN
      unfold grpOk at hg
      by_cases hi : i < 1000
      · rw [if_pos hi] at e hg
        rw [if_pos hi, if_pos hi]
        cases q2 : flatG is ts with
        | none => rw [q2] at e; cases e
        | some zs =>
          rw [q2] at e
          cases e
          have ef : flT (i :: is) = i :: flT is := by unfold flT; rw [List.filter_cons, decide_eq_true hi]; rfl
          rw [ef] at q
          obtain ⟨a, b⟩ := gNest_ok n is (Q := Q) hg (r.set i h) hs q2 fun ws rw_ hl rel => q (v :: ws) (.cons h rw_) (by simp [hl]) rel
          exact ⟨⟨v, vs, rfl, a⟩, by simp [b]⟩
      · rw [if_neg hi] at e hg
        rw [if_neg hi, if_neg hi]
        simp only [Bool.and_eq_true, decide_eq_true_eq, List.all_eq_true] at hg
        obtain ⟨⟨hg1, hg2⟩, hg3⟩ := hg
        cases t with
        | tup us =>
          dsimp only [tupL] at e
          split at e
          · rename_i hl
            cases q2 : flatG (is.drop (i - 1000)) ts with
            | none => rw [q2] at e; cases e
            | some zs =>
              rw [q2] at e
              cases e
              have ef : flT (i :: is) = is.take (i - 1000) ++ flT (is.drop (i - 1000)) := by
                have : flT (i :: is) = flT is := by unfold flT; rw [List.filter_cons, decide_eq_false hi]; rfl
                rw [this]
                conv => lhs; rw [← List.take_append_drop (i - 1000) is]
                unfold flT
                rw [List.filter_append]
                congr 1
                rw [List.filter_eq_self]
                exact fun j hj => decide_eq_true (hg2 j hj)
              rw [ef] at q
              cases h with
              | @tup a ws _ h1 h2 =>
                have l1 : ws.length = (is.take (i - 1000)).length := by rw [h2.length, hl.1, List.length_take]; omega
                have inner : gNames (is.take (i - 1000)) ws σ H (fun σ2 H2 => gNest K n (is.drop (i - 1000)) vs σ2 H2 Q) ∧ vs.length = topN n (is.drop (i - 1000)) := by
                  have lz : us.length = (is.take (i - 1000)).length := by rw [← h2.length]; exact l1
                  have step : ∀ {σ2 : St}, Rel K g ω (setAll ρ ((is.take (i - 1000)).zip us)) st σ2 H → σ2 = setS σ (is.take (i - 1000)) ws → gNest K n (is.drop (i - 1000)) vs σ2 H Q ∧ vs.length = topN n (is.drop (i - 1000)) := fun {σ2} r2 es => by
                    subst es
                    refine gNest_ok n (is.drop (i - 1000)) (Q := Q) hg3 r2 hs q2 fun zs' rz hz rel => ?_
                    have e1 : setS (setS σ (is.take (i - 1000)) ws) (flT (is.drop (i - 1000))) zs' = setS σ (is.take (i - 1000) ++ flT (is.drop (i - 1000))) (ws ++ zs') := (setS_app _ _ _ _ _ l1).symm
                    rw [e1] at rel ⊢
                    refine q (ws ++ zs') (h2.append rz) (by rw [List.length_append, List.length_append, l1, hz]) ?_
                    rw [List.zip_append lz.symm, setAll_app]
                    exact rel
                  have r1 : Rel K g ω (setAll ρ ((is.take (i - 1000)).zip us)) st (setS σ (is.take (i - 1000)) ws) H := by
                    have : ∀ (js : List Nat) {ws : List V} {us : List PV} {ρ : En} {σ : St}, Rel K g ω ρ st σ H → RepL K ω H ws us → ws.length = js.length → Rel K g ω (setAll ρ (js.zip us)) st (setS σ js ws) H := by
                      intro js
                      induction js with
                      | nil => intro ws us ρ σ r rr hl; cases rr with | nil => exact r | cons _ _ => cases hl
                      | cons j js ih =>
                        intro ws us ρ σ r rr hl
                        cases rr with
                        | nil => cases hl
                        | cons h hs => exact ih (r.set j h) hs (by simpa using hl)
                    exact this _ r h2 l1
                  refine ⟨gNames_ok _ r h2 l1 fun r' => (step r' rfl).1, (step r1 rfl).2⟩
                refine ⟨⟨.ref a, vs, rfl, a, ws, rfl, h1, by rw [l1, List.length_take]; omega, inner.1⟩, by simp [inner.2]⟩
          · cases e
        | _ => cases e
/-- the slots behind a target, told by the written value -/
def tgS (σ : St) (tg : List Nat) (x : V) (vs : List V) : St := match tg with
  | [i] => σ.set i (some x)
  | is => if nested is then setS σ (flT is) vs else setS σ is vs
theorem gAsg_ok {tg : List Nat} {x : V} {t : PV} {ρ' : En} {Q : St → Hp → Prop} (r : Rel K g ω ρ st σ H) (h : Rep K ω H x t) (e : assignT tg t ρ = some ρ') (q : ∀ vs, Rel K g ω ρ' st (tgS σ tg x vs) H → Q (tgS σ tg x vs) H) : gAsg K tg x σ H Q := by
  rcases tg with _ | ⟨i, _ | ⟨j, is⟩⟩
  rotate_left
  · --one
    unfold assignT at e
    cases e
    exact q [] (r.set i h)
  · --many
    unfold assignT at e
    dsimp only at e
    unfold gAsg
    dsimp only
    unfold tgS at q
    dsimp only at q
    cases hn : nested (i :: j :: is) with
    | true =>
      rw [hn] at e q
      rw [if_pos rfl] at e ⊢
      simp only [if_pos] at q
      unfold assignG at e
      cases t with
      | tup xs =>
        dsimp only at e
        split at e
        · rename_i hg
          cases e2 : flatG (i :: j :: is) xs with
          | none => rw [e2] at e; cases e
          | some ys =>
            rw [e2] at e
            cases e
            cases h with
            | @tup a vs _ h1 h2 =>
              obtain ⟨a1, a2⟩ := gNest_ok (i :: j :: is).length (i :: j :: is) (Q := Q) hg r h2 e2 fun ws _ _ rel => q ws rel
              exact ⟨a, vs, rfl, h1, a2, a1⟩
        · cases e
      | _ => cases e
    | false =>
      rw [hn] at e q
      rw [if_neg (by decide)] at e ⊢
      simp only [Bool.false_eq_true, if_false] at q
      cases t with
      | tup xs =>
        dsimp only at e
        split at e
        · rename_i hl
          cases e
          cases h with
          | @tup a vs _ h1 h2 =>
            refine .inl ⟨a, vs, rfl, h1, by rw [h2.length]; exact hl, gNames_ok (i :: j :: is) r h2 (by rw [h2.length]; exact hl) fun r' => q vs r'⟩
        · cases e
      | lst xs =>
        dsimp only at e
        split at e
        · rename_i hl
          cases e
          cases h with
          | @lst a vs _ hs h1 h2 =>
            refine .inr ⟨a, vs, rfl, .inl (.inl h1), by rw [h2.length]; exact hl, gNames_ok (i :: j :: is) r h2 (by rw [h2.length]; exact hl) fun r' => q vs r'⟩
        · cases e
      | _ => cases e
  · --none
    unfold assignT at e
    dsimp only at e
    rw [if_neg (by decide)] at e
    cases t with
    | tup xs =>
      dsimp only at e
      split at e
      · rename_i hl
        cases e
        cases h with
        | @tup a vs _ h1 h2 =>
          refine .inl ⟨a, vs, rfl, h1, by rw [h2.length]; exact hl, gNames_ok [] r h2 (by rw [h2.length]; exact hl) fun r' => q vs r'⟩
      · cases e
    | lst xs =>
      dsimp only at e
      split at e
      · rename_i hl
        cases e
        cases h with
        | @lst a vs _ hs h1 h2 =>
          refine .inr ⟨a, vs, rfl, .inl (.inl h1), by rw [h2.length]; exact hl, gNames_ok [] r h2 (by rw [h2.length]; exact hl) fun r' => q vs r'⟩
      · cases e
    | _ => cases e
theorem wipe_set {i : Nat} {v : Option V} : ∀ {vs : List Nat} {σ : St}, i ∈ vs → L2.wipe (σ.set i v) vs = L2.wipe σ vs
  | [], _, h => by cases h
  | j :: vs, σ, h => by
    unfold L2.wipe
    by_cases e : i ∈ vs
    · rw [wipe_set e]
    · have ej : i = j := by
        rcases List.mem_cons.mp h with z | z
        · exact z
        · exact absurd z e
      subst ej
      have hs : ∀ (vs : List Nat) (σ : St), i ∉ vs → L2.wipe (σ.set i v) vs = (L2.wipe σ vs).set i v := by
        intro vs
        induction vs with
        | nil => intro σ _; rfl
        | cons k ks ih =>
          intro σ hk
          unfold L2.wipe
          rw [ih σ (fun z => hk (by simp [z]))]
          exact List.set_comm _ _ (fun z => hk (by simp [z]))
      rw [hs vs σ e, List.set_set]
theorem wipe_setS {vs : List Nat} : ∀ (is : List Nat) (ws : List V) (σ : St), (∀ i ∈ is, i ∈ vs) → L2.wipe (setS σ is ws) vs = L2.wipe σ vs
  | [], _, _, _ => by unfold setS; rfl
  | i :: is, [], _, _ => by unfold setS; rfl
  | i :: is, w :: ws, σ, h => by
    unfold setS
    rw [wipe_setS is ws _ (fun j hj => h j (List.mem_cons_of_mem _ hj)), wipe_set (h i List.mem_cons_self)]
theorem wipe_idem_set : ∀ (vs : List Nat) (σ : St) (j : Nat), j ∈ vs → (L2.wipe σ vs).set j none = L2.wipe σ vs
  | [], _, _, h => by cases h
  | k :: vs, σ, j, h => by
    unfold L2.wipe
    by_cases e : j = k
    · subst e; rw [List.set_set]
    · have hj : j ∈ vs := by
        rcases List.mem_cons.mp h with z | z
        · exact absurd z e
        · exact z
      rw [List.set_comm _ _ (Ne.symm e), wipe_idem_set vs σ j hj]
theorem wipe_idem (vs : List Nat) (σ : St) : L2.wipe (L2.wipe σ vs) vs = L2.wipe σ vs := by
  have : ∀ us : List Nat, (∀ j ∈ us, j ∈ vs) → L2.wipe (L2.wipe σ vs) us = L2.wipe σ vs := by
    intro us
    induction us with
    | nil => intro _; rfl
    | cons k ks ih =>
      intro h
      show (L2.wipe (L2.wipe σ vs) ks).set k none = L2.wipe σ vs
      rw [ih (fun j hj => h j (List.mem_cons_of_mem _ hj))]
      exact wipe_idem_set vs σ k (h k List.mem_cons_self)
  exact this vs fun _ h => h
theorem wipe_tgS {vs tg : List Nat} {x : V} {ws : List V} {σ : St} (h : ownOk tg vs = true) : L2.wipe (tgS (L2.wipe σ vs) tg x ws) vs = L2.wipe σ vs := by
  unfold tgS
  unfold ownOk at h
  split
  · rw [wipe_set (by simpa using h), wipe_idem]
  · rename_i hh
    have h' : (if nested tg then (flT tg).all (vs.contains ·) else tg.all (vs.contains ·)) = true := by
      revert h
      split
      · rename_i i; exact absurd rfl (hh i)
      · exact id
    split
    · rename_i hn
      rw [if_pos hn] at h'
      rw [wipe_setS _ _ _ (by simpa using h'), wipe_idem]
    · rename_i hn
      rw [if_neg hn] at h'
      rw [wipe_setS _ _ _ (by simpa using h'), wipe_idem]
/-! ### what is walked -/
/-- while the world goes on from here, J yields xs -/
def ItOk (K : PySem.W.Frag) (b : Bool) (J : It) (xs : List PV) (ω : Wd) (H : Hp) : Prop := ∀ ω' H', Ext ω H ω' H' → (b = true → ExtE ω H ω' H') →
  (∀ i, i < xs.length → J.go i H') ∧ J.stop xs.length H' ∧ ∀ i x H'', i < xs.length → J.yld i H' x H'' → ∃ ω'' t, Grow ω' H' ω'' H'' ∧ xs[i]? = some t ∧ Rep K ω'' H'' x t
def postI (K : PySem.W.Frag) (b : Bool) (g : Gh) (ω : Wd) (ρ : En) (σ : St) (H : Hp) (W : Wx) (r : R PV) (Q : It → Hp → Prop) : Prop := match r with
  | .ok t st' => ∃ xs, itemsOf t = some xs ∧ ∀ J H' ω', ExtE ω H ω' H' → CelOk K ω' st' H' → ItOk K b J xs ω' H' → Q J H'
  | .exc e st' => ∀ H' ω', ExtE ω H ω' H' → CelOk K ω' st' H' → W e g ω' ρ st' σ H'
  | .bad => False
def ti (K : PySem.W.Frag) (b : Bool) (W : Wx) (f : En → Cel → R PV) : TI := fun σ H Q => ∃ g ω ρ st, Rel K g ω ρ st σ H ∧ postI K b g ω ρ σ H W (f ρ st) Q
theorem wPI {tg iter : Expr} {w w' : TI} (h : PI X tg iter w) (i : ∀ σ H R, w' σ H R → w σ H R) : PI X tg iter w' := ⟨fun pins s σ H R I q => h.run pins s σ H R I (i _ _ _ q)⟩
theorem pi_or {tg iter : Expr} {w w' : TI} (h : PI X tg iter w) (h' : PI X tg iter w') : PI X tg iter (fun σ H R => w σ H R ∨ w' σ H R) := ⟨fun pins s σ H R I q => by
  rcases q with q | q
  · exact h.run pins s σ H R I q
  · exact h'.run pins s σ H R I q⟩
theorem it_seq {J : It} {vs : List V} {ts : List PV} {bb : Bool} (r : RepL K ω H vs ts) (c : CelOk K ω st H)
    (h : ∀ ω' H', Ext ω H ω' H' → (bb = true → ExtE ω H ω' H') → (∀ i, i < vs.length → J.go i H') ∧ J.stop vs.length H' ∧ ∀ i x H'', J.yld i H' x H'' → H'' = H' ∧ vs[i]? = some x) : ItOk K bb J ts ω H := by
  intro ω' H' x xe
  obtain ⟨h1, h2, h3⟩ := h ω' H' x xe
  rw [← r.length]
  refine ⟨h1, h2, fun i y H'' hi hy => ?_⟩
  obtain ⟨rfl, e⟩ := h3 i y H'' hy
  obtain ⟨t, e1, r1⟩ := r.getV e
  exact ⟨ω', t, Grow.refl _ _, e1, r1.mono x⟩
theorem RepM.dct {b : Bool} {x : V} {ks : List Key} {ts : List PV} (h : RepM K b ω H x (.dct ks ts)) : ∃ a o kvs, x = .ref a ∧ H a = some (.frz o (.dK kvs)) ∧ ks = kvs.map (·.1) ∧ RepL K ω H (kvs.map (·.2)) ts := by
  rcases h with h | ⟨_, a, e, ⟨vs, ts', e1, e2, e3⟩, _⟩
  · cases h with
    | dct h r => exact ⟨_, _, _, rfl, h, rfl, r⟩
  · cases e1
theorem repl_keys {kvs : List (Key × V)} : RepL K ω H ((kvs.map (·.1)).map kV) ((kvs.map (·.1)).map kP) := by
  induction kvs with
  | nil => exact .nil
  | cons q r ih =>
    obtain ⟨k, v⟩ := q
    cases k with
    | inl i => exact .cons (.int i) ih
    | inr x => exact .cons (.str x) ih
/-- a list or a tuple; b: also a list that a name owns, where nothing but expressions run meanwhile -/
theorem si_seq {tg iter : Expr} {f : En → Cel → R PV} {bb : Bool} (h : PE X iter (tv X.K bb W f)) : PI X tg iter (ti X.K bb W f) := by
  refine wPI (pi_or (pi_list h) (pi_or (pi_tup h) (pi_or (pi_keys h) (pi_str h)))) fun σ H R ⟨g, ω, ρ, st, rel, q⟩ => ?_
  cases e : f ρ st with
  | bad => rw [e] at q; exact q.elim
  | exc x s => rw [e] at q; exact .inl ⟨g, ω, ρ, st, rel, by rw [e]; exact q⟩
  | ok t s =>
    rw [e] at q
    obtain ⟨xs, ex, q⟩ := q
    cases t with
    | lst ts =>
      cases ex
      refine .inl ⟨g, ω, ρ, st, rel, ?_⟩
      rw [e]
      intro x H' ω' y c p
      rcases p with p | ⟨hb, a, e1, ⟨vs, ts', e2, e3, e4⟩, nc⟩
      · cases p with
        | @lst a vs _ hs hh hr =>
          refine ⟨a, rfl, ⟨vs, .inl (.inl hh)⟩, q _ H' ω' y c (it_seq hr c fun ω2 H2 z _ => ?_)⟩
          have hq : SqL X.K H2 a vs := .inl (.inl (z.keep _ _ hh (.inl hs)))
          exact ⟨fun i hi => ⟨vs, vs[i], hq, by simp [hi]⟩, ⟨vs, hq, Nat.le_refl _⟩, fun i x H'' hy => ⟨hy.1, hy.2 vs hq⟩⟩
      · subst e1
        cases e2
        refine ⟨a, rfl, ⟨vs, .inl (.inl e3)⟩, q _ H' ω' y c (it_seq e4 c fun ω2 H2 z ze => ?_)⟩
        have hq : SqL X.K H2 a vs := .inl (.inl ((ze hb).keep _ _ e3 nc))
        exact ⟨fun i hi => ⟨vs, vs[i], hq, by simp [hi]⟩, ⟨vs, hq, Nat.le_refl _⟩, fun i x H'' hy => ⟨hy.1, hy.2 vs hq⟩⟩
    | rol ts =>
      cases ex
      refine .inl ⟨g, ω, ρ, st, rel, ?_⟩
      rw [e]
      intro x H' ω' y c p
      rcases p with p | ⟨hb, a, e1, ⟨vs, ts', e2, e3, e4⟩, nc⟩
      · cases p with
        | @rol a vs _ hh hr =>
          refine ⟨a, rfl, ⟨vs, hh.sq⟩, q _ H' ω' y c (it_seq hr c fun ω2 H2 z _ => ?_)⟩
          have hq : SqL X.K H2 a vs := (z.roL hh).sq
          exact ⟨fun i hi => ⟨vs, vs[i], hq, by simp [hi]⟩, ⟨vs, hq, Nat.le_refl _⟩, fun i x H'' hy => ⟨hy.1, hy.2 vs hq⟩⟩
      · cases e2
    | tup ts =>
      cases ex
      refine .inr (.inl ⟨g, ω, ρ, st, rel, ?_⟩)
      rw [e]
      intro x H' ω' y c p
      obtain ⟨a, vs, rfl, hh, hr⟩ := p.tup
      refine ⟨a, rfl, ⟨vs, hh⟩, q _ H' ω' y c (it_seq hr c fun ω2 H2 z _ => ?_)⟩
      have hq : SqT X.K H2 a vs := z.sqT hh
      exact ⟨fun i hi => ⟨vs, vs[i], hq, by simp [hi]⟩, ⟨vs, hq, Nat.le_refl _⟩, fun i x H'' hy => ⟨hy.1, hy.2 vs hq⟩⟩
    | dct ks ts =>
      cases ex
      refine .inr (.inr (.inl ⟨g, ω, ρ, st, rel, ?_⟩))
      rw [e]
      intro x H' ω' y c p
      obtain ⟨a, o, kvs, rfl, hh, rfl, hr⟩ := p.dct
      refine ⟨a, o, rfl, .inl ⟨kvs, hh, q _ H' ω' y c (it_seq (repl_keys (kvs := kvs)) c fun ω2 H2 z _ => ?_)⟩⟩
      have hq := z.keep _ _ hh (.inr trivial)
      refine ⟨fun i hi => ⟨hq, by simpa using hi⟩, ⟨hq, by simp⟩, fun i x H'' hy => ?_⟩
      obtain ⟨e1, kk, v, e2, rfl⟩ := hy
      exact ⟨e1, by simp [e2]⟩
    | str z =>
      cases ex
      refine .inr (.inr (.inr ⟨g, ω, ρ, st, rel, ?_⟩))
      rw [e]
      intro x H' ω' y c p
      have rp : RepL X.K ω' H' (z.cps.toList.map fun c => V.str ⟨#[c]⟩) (signsP z) := by
        unfold signsP
        induction z.cps.toList with
        | nil => exact .nil
        | cons k r ih => exact .cons (.str _) ih
      refine ⟨z, p.str, q _ H' ω' y c (it_seq rp c fun ω2 H2 _ _ => ?_)⟩
      refine ⟨fun i hi => by show i < z.cps.size; simpa using hi, by show z.cps.size ≤ _; simp, fun i x H'' hy => ?_⟩
      obtain ⟨e1, k, e2, rfl⟩ := hy
      refine ⟨e1, ?_⟩
      rw [List.getElem?_map, Array.getElem?_toList, e2]
      rfl
    | _ => cases ex
theorem bindI {α β : Type} {P : RX α β} {f : En → Cel → R α} {k : α → Cel → R PV} {Q : It → Hp → Prop} {bb : Bool} (r : Rel K g ω ρ st σ H) (h : postI K bb g ω ρ σ H W ((f ρ st).bind k) Q) :
    tG P K W f σ H (fun x H1 => ∃ ω1 st1 t, ExtE ω H ω1 H1 ∧ Rel K g ω1 ρ st1 σ H1 ∧ P ω1 H1 x t ∧ postI K bb g ω1 ρ σ H1 W (k t st1) Q) := by
  refine ⟨g, ω, ρ, st, r, ?_⟩
  cases e : f ρ st with
  | ok t s =>
    rw [e] at h
    intro x H1 ω1 x1 c p
    refine ⟨ω1, s, t, x1, r.extE x1 c, p, ?_⟩
    simp only [R.bind_ok] at h
    revert h
    cases k t s with
    | ok u s2 => exact fun ⟨xs, ex, h⟩ => ⟨xs, ex, fun J H' ω' y c i => h J H' ω' (x1.trans y) c i⟩
    | exc e2 s2 => exact fun h H' ω' y c => h H' ω' (x1.trans y) c
    | bad => exact fun h => h
  | exc x s => rw [e] at h; exact h
  | bad => rw [e] at h; exact h
theorem it_range {lo : Int} {n : Nat} {bb : Bool} {xs : List PV} (h : xs = (List.range n).map fun k => PV.int (lo + (k : Nat))) : ItOk K bb (Itr lo n) xs ω H := by
  intro ω' H' x xe
  subst h
  refine ⟨fun i hi => (by show i < n; simpa using hi), (by show n ≤ _; simp), fun i y H'' hi hy => ?_⟩
  obtain ⟨rfl, rfl⟩ := hy
  simp only [List.length_map, List.length_range] at hi
  exact ⟨ω', .int (lo + (i : Nat)), Grow.refl _ _, by simp [hi], .int _⟩
theorem rOk_le {i : Int} (h : rOk i = true) : -(2 ^ 62) ≤ i ∧ i < 2 ^ 62 := by
  unfold rOk at h
  simpa using h
theorem si_rng1 {tg iter : Expr} {f : En → Cel → R PV} {bb : Bool} (hpi : ∀ ta, PE X a ta → PI X tg iter (iRng1 (tCons ta tNil))) (ha : PE X a (tv X.K false W f)) : PI X tg iter (ti X.K bb W fun ρ st => (f ρ st).bind fun x st => R.of (rng1V x) st) := by
  refine wPI (hpi _ ha) fun σ H R ⟨g, ω, ρ, st, rel, q⟩ => (bindI (P := RepM X.K false) (f := f) rel q).mono fun x H1 ⟨ω1, st1, t, x1, rel1, p, q⟩ => ?_
  cases t with
  | int i =>
    unfold rng1V at q
    dsimp only at q
    by_cases hz : rOk i = true
    · rw [if_pos hz] at q
      obtain ⟨xs, ex, q⟩ := q
      cases ex
      refine ⟨i, by rw [p.int], (rOk_le hz).1, (rOk_le hz).2, q _ H1 ω1 (ExtE.refl _ _) rel1.cells (it_range ?_)⟩
      unfold rngP
      simp
    · rw [if_neg hz] at q; exact q.elim
  | _ => exact q.elim
theorem si_rng2 {tg iter : Expr} {f f' : En → Cel → R PV} {bb : Bool} (hpi : ∀ ta tb, PE X a ta → PE X b tb → PI X tg iter (iRng2 (tCons ta (tCons tb tNil)))) (ha : PE X a (tv X.K false W f)) (hb : PE X b (tv X.K false W f')) :
    PI X tg iter (ti X.K bb W fun ρ st => (f ρ st).bind fun x st => (f' ρ st).bind fun y st => R.of (rng2V x y) st) := by
  refine wPI (hpi _ _ ha hb) fun σ H R ⟨g, ω, ρ, st, rel, q⟩ => (bindI (P := RepM X.K false) (f := f) rel q).mono fun x H1 ⟨ω1, st1, t, x1, rel1, p, q⟩ => ?_
  refine (bindI (P := RepM X.K false) (f := f') rel1 q).mono fun y H2 ⟨ω2, st2, u, x2, rel2, p2, q2⟩ => ?_
  cases t with
  | int i =>
    cases u with
    | int j =>
      unfold rng2V at q2
      dsimp only at q2
      by_cases hz : (rOk i && rOk j) = true
      · rw [if_pos hz] at q2
        simp only [Bool.and_eq_true] at hz
        obtain ⟨xs, ex, q2⟩ := q2
        cases ex
        refine ⟨i, j, by rw [p.int, p2.int], ⟨(rOk_le hz.1).1, (rOk_le hz.1).2, (rOk_le hz.2).1, (rOk_le hz.2).2⟩, q2 _ H2 ω2 (ExtE.refl _ _) rel2.cells (it_range ?_)⟩
        unfold rngP
        rfl
      · rw [if_neg hz] at q2; exact q2.elim
    | _ => exact q2.elim
  | _ => exact q2.elim
theorem it_zip {J : It} {xs ys : List V} {ts us : List PV} {bb : Bool} (r1 : RepL K ω H xs ts) (r2 : RepL K ω H ys us)
    (h : ∀ ω' H', Ext ω H ω' H' → (bb = true → ExtE ω H ω' H') → (∀ i, i < min xs.length ys.length → J.go i H') ∧ J.stop (min xs.length ys.length) H' ∧
      ∀ i v H'', J.yld i H' v H'' → ∃ T x y, v = .ref T ∧ H' T = none ∧ H'' = upd H' T (.tup [x, y]) ∧ xs[i]? = some x ∧ ys[i]? = some y) :
    ItOk K bb J ((ts.zip us).map fun p => .tup [p.1, p.2]) ω H := by
  intro ω' H' x xe
  obtain ⟨h1, h2, h3⟩ := h ω' H' x xe
  have hl : ((ts.zip us).map fun p : PV × PV => PV.tup [p.1, p.2]).length = min xs.length ys.length := by rw [List.length_map, List.length_zip, r1.length, r2.length]
  rw [hl]
  refine ⟨h1, h2, fun i v H'' hi hy => ?_⟩
  obtain ⟨T, x1, y1, rfl, hT, rfl, e1, e2⟩ := h3 i v H'' hy
  obtain ⟨t, f1, g1⟩ := r1.getV e1
  obtain ⟨u, f2, g2⟩ := r2.getV e2
  refine ⟨ω', .tup [t, u], Grow.upd hT, ?_, .tup (.inl (.inl upd_same)) (.cons (g1.mono (x.trans (Grow.upd hT).ext)) (.cons (g2.mono (x.trans (Grow.upd hT).ext)) .nil))⟩
  rw [List.getElem?_map, (List.getElem?_zip_eq_some (z := (t, u))).mpr ⟨f1, f2⟩]
  rfl
theorem si_zip {tg iter : Expr} {f f' : En → Cel → R PV} (hpi : ∀ ta tb, PE X a ta → PE X b tb → PI X tg iter (RZ.iZipA X.K (tCons ta (tCons tb tNil)))) (ha : PE X a (tv X.K false W f)) (hb : PE X b (tv X.K false W f')) {bb : Bool} :
    PI X tg iter (ti X.K bb W fun ρ st => (f ρ st).bind fun x st => (f' ρ st).bind fun y st => R.of (zipV x y) st) := by
  refine wPI (hpi _ _ ha hb) fun σ H R ⟨g, ω, ρ, st, rel, q⟩ => (bindI (P := RepM X.K false) (f := f) rel q).mono fun x H1 ⟨ω1, st1, t, x1, rel1, p, q⟩ => ?_
  refine (bindI (P := RepM X.K false) (f := f') rel1 q).mono fun y H2 ⟨ω2, st2, u, x2, rel2, p2, q2⟩ => ?_
  have pp := p.extE x2 rel1.cells
  cases t with
  | tup ts =>
    cases u with
    | tup us =>
      obtain ⟨_, ex, q2⟩ := q2
      cases ex
      obtain ⟨a, xs, rfl, ha, ra⟩ := pp.tup
      obtain ⟨b, ys, rfl, hb, rb⟩ := p2.tup
      refine ⟨a, b, xs, ys, rfl, .inr ⟨ha, hb, q2 _ H2 ω2 (ExtE.refl _ _) rel2.cells (it_zip ra rb fun ω' H' z _ => ?_)⟩⟩
      have ha' := z.sqT ha
      have hb' := z.sqT hb
      refine ⟨fun i hi => ⟨xs, ys, xs[i]'(by omega), ys[i]'(by omega), ha', hb', by simp [show i < xs.length by omega], by simp [show i < ys.length by omega]⟩, ⟨xs, ys, ha', hb', by omega⟩, fun i v H'' hy => ?_⟩
      obtain ⟨T, x, y, e1, e2, e3, e4, e5⟩ := hy
      exact ⟨T, x, y, e1, e2, e3, e4 xs ha', e5 ys hb'⟩
    | _ => exact q2.elim
  | lst ts =>
    cases u with
    | lst us =>
      obtain ⟨_, ex, q2⟩ := q2
      cases ex
      cases pp.rep with
      | @lst a xs _ hs ha ra =>
        cases p2.rep with
        | @lst b ys _ hs' hb rb =>
          refine ⟨a, b, xs, ys, rfl, .inl ⟨.inl (.inl ha), .inl (.inl hb), q2 _ H2 ω2 (ExtE.refl _ _) rel2.cells (it_zip ra rb fun ω' H' z _ => ?_)⟩⟩
          have ha' : SqL X.K H' a xs := .inl (.inl (z.keep _ _ ha (.inl hs)))
          have hb' : SqL X.K H' b ys := .inl (.inl (z.keep _ _ hb (.inl hs')))
          refine ⟨fun i hi => ⟨xs, ys, xs[i]'(by omega), ys[i]'(by omega), ha', hb', by simp [show i < xs.length by omega], by simp [show i < ys.length by omega]⟩, ⟨xs, ys, ha', hb', by omega⟩, fun i v H'' hy => ?_⟩
          obtain ⟨T, x, y, e1, e2, e3, e4, e5⟩ := hy
          exact ⟨T, x, y, e1, e2, e3, e4 xs ha', e5 ys hb'⟩
    | _ => exact q2.elim
  | _ => exact q2.elim
end
end Ev
namespace Ev
open PySem PySem.Spec PyProof.Rows L2
/-! ### enumerate(tuple) -/
set_option maxHeartbeats 1000000 in
theorem new_enumT (l : Addr) (items : Array Value) (n : Nat) (dd : Option Addr) (sl : Array (Option Value)) :
    Meets (Builtin.«enumerate.__new__» ⟨[.type "enumerate", .ref l], []⟩) (fun _ R s => s.heap.get? l = some { cls := .type "tuple", dict := dd, data := .seq items n, slots := sl } ∧
      R (.ok (.ret (.ref (s.heap.push { cls := .type "tuple_iterator", data := .fields #[.ref l, .int 0 0] }).objs.size)))
        { s with heap := (s.heap.push { cls := .type "tuple_iterator", data := .fields #[.ref l, .int 0 0] }).push { cls := .type "enumerate", data := .fields #[.none, .bool false, .ref s.heap.objs.size, rawInt 0, .none, .none] } }) :=
  .of_wp fun prog w A R s h => by
    obtain ⟨hp, gg, dr, tk, os⟩ := s
    obtain ⟨hl, h⟩ := h
    have hsub := sub_enumerate
    have hT : Heap.IsTuple (Shared.heap ⟨hp, gg, dr, tk, os⟩) l items := ⟨_, hl, rfl, n, rfl⟩
    wp_walk using AutoSeq1.wpAny_loadPart' hl
    refine wpAny_stack_any fun st => wpAny_pure ?_
    split
    · rename_i c _ _ _ _ _
      cases (c == Value.type "enumerate")
      · wp_walk using AutoSeq1.wpAny_loadPart' hl, wpAny_pyIter_tuple hT
        exact ⟨_, rfl, h⟩
      · wp_walk using AutoSeq1.wpAny_loadPart' hl, wpAny_pyIter_tuple hT
        exact ⟨_, rfl, h⟩
    · wp_walk using AutoSeq1.wpAny_loadPart' hl, wpAny_pyIter_tuple hT
      exact ⟨_, rfl, h⟩
section
variable {prog : Program} {w : World} {A : Around} {E : Value → Shared → Prop} {s : Shared}
theorem call_enumT {l : Addr} {items : Array Value} {Q : Value → Shared → Prop} (hT : s.heap.IsTuple l items)
    (k : ∀ h', IsEnum h' (s.heap.objs.size + 1) s.heap.objs.size 0 .none → h'.IsTupleIter s.heap.objs.size l 0 → (∀ b o, s.heap.get? b = some o → h'.get? b = some o) → Q (.ref (s.heap.objs.size + 1)) { s with heap := h' }) :
    wpAny (model prog w) A (call (.type "enumerate") [.ref l]) Q E s := by
  obtain ⟨⟨c, dct, dt, sl⟩, hl, hc, n, hd⟩ := hT
  obtain rfl : c = .type "tuple" := hc
  obtain rfl : dt = .seq items n := hd
  have e1 : (s.heap.push { cls := .type "tuple_iterator", data := .fields #[.ref l, .int 0 0] }).objs.size = s.heap.objs.size + 1 := Heap.size_push ..
  have he : ((s.heap.push { cls := .type "tuple_iterator", data := .fields #[.ref l, .int 0 0] }).push { cls := .type "enumerate", data := .fields #[.none, .bool false, .ref s.heap.objs.size, rawInt 0, .none, .none] }).get? (s.heap.objs.size + 1) = some { cls := .type "enumerate", data := .fields #[.none, .bool false, .ref s.heap.objs.size, rawInt 0, .none, .none] } := by
    have z := Heap.get?_push_size (s.heap.push { cls := .type "tuple_iterator", data := .fields #[.ref l, .int 0 0] }) (o := { cls := .type "enumerate", data := .fields #[.none, .bool false, .ref s.heap.objs.size, rawInt 0, .none, .none] }) rfl
    rw [e1] at z
    exact z
  have hi : ((s.heap.push { cls := .type "tuple_iterator", data := .fields #[.ref l, .int 0 0] }).push { cls := .type "enumerate", data := .fields #[.none, .bool false, .ref s.heap.objs.size, rawInt 0, .none, .none] }).IsTupleIter s.heap.objs.size l 0 :=
    ⟨_, Heap.get?_push_of_some _ (Heap.get?_push_size _ rfl), rfl, rfl⟩
  refine callType_new F.called_enumerate (by decide) (F.typeCall_enumerate_1 _) (F.newCall_enumerate_1 _) (fun obj => F.args_object_init_2 obj _) F.entry_enumerate_new (new_enumT l items n dct sl) ⟨hl, ?_⟩
  show _ ∧ _
  rw [e1]
  exact ⟨⟨_, he, rfl⟩, k _ he hi fun b o e => Heap.get?_push_of_some _ (Heap.get?_push_of_some _ e)⟩
theorem drawsT (hh : A.handled = none) (it l : Addr) (hne : l ≠ it) (items : Array Value) :
    Draws prog w A it [it, l] items.size (fun i v => items[i]? = some v) (fun i h => h.IsTupleIter it l i ∧ h.IsTuple l items) where
  live := fun _ _ st => let ⟨o, ho, _⟩ := st.1; ⟨o, ho⟩
  frame := fun _ _ _ st hk => by
    obtain ⟨⟨o, e, r⟩, ⟨o', e', r'⟩⟩ := st
    exact ⟨⟨o, hk it (by simp) o e, r⟩, ⟨o', hk l (by simp) o' e', r'⟩⟩
  item := fun i s Q E hi st hQ => RZ.nextOf_tuple_item st.1 st.2 (x := items[i]) (by simp [hi]) fun h' hit' hs' => hQ _ h' s.toks (by simp [hi]) ⟨hit', st.2.extBut hs'.extBut hne⟩ hs'
  done := fun s Q E st hE => RZ.nextOf_tuple_end hh st.1 st.2 (by simp) hE
end
/-- the tuple at a, each item in a new pair -/
def IteT (K : PySem.W.Frag) (a : Addr) : It :=
  ⟨fun i H => ∃ (xs : List V) (x : V), SqT K H a xs ∧ xs[i]? = some x, fun i H v H' => ∃ T x, v = .ref T ∧ H T = none ∧ H' = upd H T (.tup [.int (i : Nat), x]) ∧ ∀ xs, SqT K H a xs → xs[i]? = some x, fun i H => ∃ xs : List V, SqT K H a xs ∧ xs.length ≤ i⟩
theorem turn_enumT {P : Program} {w : World} {K : PySem.W.Frag} {elts : List Expr} {kk : Nat} {tpos : Pos} (a e it : Addr) :
    Turn P w K (.Tuple elts kk tpos) (IteT K a) [e, it] e (fun i h => (∃ old, IsEnum h e it ((i : Nat) : Int) old) ∧ h.IsTupleIter it a i ∧ e ≠ it ∧ a ≠ e ∧ a ≠ it) where
  mem := List.mem_cons_self ..
  obj := fun i h st b hb => by
    obtain ⟨⟨old, he⟩, ⟨o, ho, hc, hd⟩, _⟩ := st
    rcases List.mem_cons.mp hb with z | z
    · subst z; exact ⟨_, he, nofun⟩
    · rw [List.mem_singleton.mp z]; exact ⟨o, ho, fun v q => by rw [hd] at q; cases q⟩
  keep := fun i h h' st k => by
    obtain ⟨⟨old, he⟩, ⟨o, ho, r⟩, rest⟩ := st
    exact ⟨⟨old, k e (List.mem_cons_self ..) _ he⟩, ⟨o, k it (by simp) _ ho, r⟩, rest⟩
  item := by
    intro X hP hw hK hc i pins s σ H E I hf st hg
    subst hP hw hK
    obtain ⟨⟨old, he⟩, hit, hne, hae, hai⟩ := st
    obtain ⟨xs, x, hq, hx⟩ := hg
    obtain ⟨its, rv, tp, hz⟩ := I.tuple hq
    obtain ⟨u, hu, ru⟩ := rv.get hx
    have lte : e < s.heap.objs.size := Heap.lt_size he
    have lti : it < s.heap.objs.size := by obtain ⟨_, q, _⟩ := hit; exact Heap.lt_size q
    have lt : i < its.toArray.size := by
      rcases Nat.lt_or_ge i its.length with z | z
      · simpa using z
      · rw [List.getElem?_eq_none z] at hu; cases hu
    refine wpAny_pyNext_enum_itemD (drawsT (A := X.A.in1) (I.ok.hd hc) it a hai its.toArray) he ⟨hit, tp⟩ lt hne (by simp [hne, Ne.symm hae]) fun v h' tk hv ho st' hT hsz hk => ?_
    have ev : v = u := by
      have : its.toArray[i]? = some u := by simpa using hu
      rw [this] at hv
      exact (Option.some.inj hv).symm
    subst ev
    refine ⟨_, rfl, wpAny_letOwnedTupleGo_enum (s := { s with heap := h', toks := tk + 1 }) ho fun h2 he' sb => ?_⟩
    have hT2 : h2.get? s.heap.objs.size = some { cls := .type "tuple", data := .seq #[.int i tk, v] } := (sb.2 _ (Nat.ne_of_gt lte)).trans hT
    have ob : ObjOk X.prog X.w (upd H s.heap.objs.size (.tup [.int (i : Nat), x])) h2 s.heap.objs.size (.tup [.int (i : Nat), x]) :=
      ⟨by show 2 ≤ sizeLine; decide, [.int i tk, v], .cons ⟨_, rfl⟩ (.cons ru .nil), ⟨_, hT2, rfl, _, rfl⟩⟩
    have J : L2.Inv X pins σ (upd H s.heap.objs.size (.tup [.int (i : Nat), x])) { s with heap := h2, toks := tk + 1 } :=
      I.turnedNew (ch := [e, it]) (fun b o hb q => (sb.2 b (fun z => hb (by simp [z]))).trans (hk b o (fun z => hb (by simp [z])) (fun z => hb (by simp [z])) q)) hf (Nat.le_refl _) ob
    refine ⟨.ref s.heap.objs.size, _, J, rfl, ⟨_, x, rfl, I.hok.fresh (Nat.le_refl _), rfl, fun ys hy => by rw [I.tuple_inj hy hq]; exact hx⟩, ⟨⟨v, ?_⟩, ?_, hne, hae, hai⟩, fun b hb => ?_⟩
    · rw [show ((i + 1 : Nat) : Int) = (i : Int) + 1 by omega]; exact he'
    · obtain ⟨⟨o2, e2, r2⟩, _⟩ := st'
      exact ⟨o2, (sb.2 it (Ne.symm hne)).trans e2, r2⟩
    · have lb : b < s.heap.objs.size := by
        rcases List.mem_cons.mp hb with z | z
        · rw [z]; exact lte
        · rw [List.mem_singleton.mp z]; exact lti
      rw [upd_ne (Nat.ne_of_lt lb)]
      exact (hf b hb).1
  done := by
    intro X hP hw hK hc i pins s σ H E I hf st hg
    subst hP hw hK
    obtain ⟨⟨old, he⟩, hit, hne, hae, hai⟩ := st
    obtain ⟨xs, hq, hx⟩ := hg
    obtain ⟨its, rv, tp, hz⟩ := I.tuple hq
    obtain ⟨f0, f1, f2, f3, f4, f5⟩ := hf it (by simp)
    have hl := rv.length
    have none : its.toArray[i]? = none := by simp; omega
    have hT : s.TypeIs (.ref e) "enumerate" := ⟨_, he, rfl⟩
    unfold pyNext
    refine wpAny_bind (wpAny_attempt (wpAny_callSpecial?_slot (name := Str.ofString "__next__") hT F.slot_enumerate_next (wpAny_call_entry F.slot_enumerate_next hT F.entry_enumerate_next ?_ (F.args_enumerate_next_1 _))))
    show wpAny _ _ (field (.ref e) 2 >>= _) _ _ _; refine wpAny_bind (wpAny_field he rfl (x := .ref it) rfl ?_)
    refine wpAny_bind (RZ.nextOf_tuple_end (A := X.A.in1) (I.ok.hd hc) hit tp none fun h' x he' hx' => ?_)
    obtain ⟨o, ho, hcl⟩ := hx'
    refine wpAny_bind (wpAny_isInstance (T := "StopIteration") (b := true) ⟨o, ho, hcl⟩ isSubtype_stop (wpAny_pure ?_))
    exact ⟨rfl, I.turned (t' := s.toks) (fun b o hb q => he' b o hb q) f0 f1 f3 f4 f5⟩
  self := fun A i s Q E st h => let ⟨⟨_, he⟩, _⟩ := st; wpAny_pyIter_enum he h
def iEnumT (K : PySem.W.Frag) (ta : TA) : TI := fun σ H R => ta σ H fun vs H1 => ∃ a xs, vs = [.ref a] ∧ SqT K H1 a xs ∧ R (IteT K a) H1
theorem pi_enumT {X : Cx} {e : Expr} {ta : TA} {p pos tpos : Pos} {elts : List Expr} {kk : Nat} (hg : Gl X "enumerate") (hm : X.mg "enumerate" = none) (ha : PA X [e] ta) (hs : starEach [e] X.env = [(false, eval e X.env)]) :
    PI X (.Tuple elts kk tpos) (.Call (.Name "enumerate" p) [e] [] pos) (iEnumT X.K ta) := by
  refine ⟨fun pins s σ H R I h => Call_ (ld_blt I hg hm boot_enumerate (PyProof.Rows.callWith_type1 (thn (ha.run pos pins s σ H _ I h) fun us s1 ⟨vs, H1, I1, r1, q1⟩ => ?_) hs rfl))⟩
  obtain ⟨a, xs, rfl, hq, q⟩ := q1
  rw [Vals.ref1 r1]
  obtain ⟨its, rv, tp, hz⟩ := I1.tuple hq
  have la : a < s1.heap.objs.size := by obtain ⟨_, z, _⟩ := tp; exact Heap.lt_size z
  refine call_enumT tp fun h' he hit hk => wpAny_pyIter_enum he ?_
  have I2 : L2.Inv X pins σ H1 { s1 with heap := h' } := I1.kept (t' := s1.toks) hk
  refine ⟨s1.heap.objs.size + 1, [s1.heap.objs.size + 1, s1.heap.objs.size], _, _, H1, rfl, I2, turn_enumT a (s1.heap.objs.size + 1) s1.heap.objs.size, ⟨⟨.none, he⟩, hit, Nat.succ_ne_self _, Nat.ne_of_lt (Nat.lt_succ_of_lt la), Nat.ne_of_lt la⟩, fun b hb => ?_, q⟩
  have le : s1.heap.objs.size ≤ b := by
    rcases List.mem_cons.mp hb with z | z
    · rw [z]; exact Nat.le_succ _
    · rw [List.mem_singleton.mp z]; exact Nat.le_refl _
  exact I1.fpOk le (I1.hok.fresh le)
theorem enumP_len : ∀ (n : Nat) (ts : List PV), (enumP n ts).length = ts.length
  | _, [] => rfl
  | n, t :: ts => by rw [enumP, List.length_cons, List.length_cons, enumP_len]
theorem enumP_get : ∀ (n : Nat) (ts : List PV) (i : Nat) (t : PV), ts[i]? = some t → (enumP n ts)[i]? = some (.tup [.int ((n + i : Nat) : Int), t])
  | n, t :: ts, 0, u, h => by simp at h; subst h; rfl
  | n, t :: ts, i + 1, u, h => by
    have := enumP_get (n + 1) ts i u (by simpa using h)
    rw [enumP, List.getElem?_cons_succ, this]
    congr 4
    omega
  | n, [], i, u, h => by simp at h
section
variable {X : Cx} {W : Wx} {a : Expr} {K : PySem.W.Frag} {g : Gh} {ω ω' : Wd} {ρ : En} {st st' : Cel} {σ : L2.St} {H H' : Hp}
theorem it_enum {J : It} {xs : List V} {ts : List PV} {bb : Bool} (r : RepL K ω H xs ts)
    (h : ∀ ω' H', Ext ω H ω' H' → (bb = true → ExtE ω H ω' H') → (∀ i, i < xs.length → J.go i H') ∧ J.stop xs.length H' ∧ ∀ i v H'', J.yld i H' v H'' → ∃ T x, v = .ref T ∧ H' T = none ∧ H'' = upd H' T (.tup [.int (i : Nat), x]) ∧ xs[i]? = some x) :
    ItOk K bb J (enumP 0 ts) ω H := by
  intro ω' H' x xe
  obtain ⟨h1, h2, h3⟩ := h ω' H' x xe
  rw [enumP_len, ← r.length]
  refine ⟨h1, h2, fun i v H'' hi hy => ?_⟩
  obtain ⟨T, x1, rfl, hT, rfl, e1⟩ := h3 i v H'' hy
  obtain ⟨t, f1, g1⟩ := r.getV e1
  refine ⟨ω', _, Grow.upd hT, enumP_get 0 ts i t f1, ?_⟩
  rw [Nat.zero_add]
  exact .tup (.inl (.inl upd_same)) (.cons (.int _) (.cons (g1.mono (x.trans (Grow.upd hT).ext)) .nil))
theorem si_enum {tg iter : Expr} {f : En → Cel → R PV} {bb : Bool} (hpi : ∀ ta, PE X a ta → PI X tg iter (fun σ H R => iEnum X.K (tCons ta tNil) σ H R ∨ iEnumT X.K (tCons ta tNil) σ H R)) (ha : PE X a (tv X.K false W f)) :
    PI X tg iter (ti X.K bb W fun ρ st => (f ρ st).bind fun x st => R.of (enumV x) st) := by
  refine wPI (hpi _ ha) fun σ H R ⟨g, ω, ρ, st, rel, q⟩ => ?_
  change postI X.K bb g ω ρ σ H W ((f ρ st).bind fun x st => Ev.R.of (enumV x) st) R at q
  cases e : f ρ st with
  | bad => rw [e] at q; exact q.elim
  | exc x s =>
    rw [e] at q
    exact .inl ⟨g, ω, ρ, st, rel, by rw [e]; exact q⟩
  | ok t s =>
    rw [e] at q
    cases t with
    | lst ts =>
      refine .inl ⟨g, ω, ρ, st, rel, ?_⟩
      rw [e]
      intro x H1 ω1 x1 c1 p
      obtain ⟨_, ex, q⟩ := q
      cases ex
      cases p.rep with
      | @lst a xs _ hs ha ra =>
        refine ⟨a, xs, rfl, .inl (.inl ha), q _ H1 ω1 x1 c1 (it_enum ra fun ω' H' z _ => ?_)⟩
        have ha' : SqL X.K H' a xs := .inl (.inl (z.keep _ _ ha (.inl hs)))
        refine ⟨fun i hi => ⟨xs, xs[i], ha', by simp [hi]⟩, ⟨xs, ha', Nat.le_refl _⟩, fun i v H'' hy => ?_⟩
        obtain ⟨T, x, e1, e2, e3, e4⟩ := hy
        exact ⟨T, x, e1, e2, e3, e4 xs ha'⟩
    | tup ts =>
      refine .inr ⟨g, ω, ρ, st, rel, ?_⟩
      rw [e]
      intro x H1 ω1 x1 c1 p
      obtain ⟨_, ex, q⟩ := q
      cases ex
      obtain ⟨a, xs, rfl, ha, ra⟩ := p.tup
      refine ⟨a, xs, rfl, ha, q _ H1 ω1 x1 c1 (it_enum ra fun ω' H' z _ => ?_)⟩
      have ha' := z.sqT ha
      refine ⟨fun i hi => ⟨xs, xs[i], ha', by simp [hi]⟩, ⟨xs, ha', Nat.le_refl _⟩, fun i v H'' hy => ?_⟩
      obtain ⟨T, x, e1, e2, e3, e4⟩ := hy
      exact ⟨T, x, e1, e2, e3, e4 xs ha'⟩
    | _ => exact q.elim
end
end Ev
namespace Ev
open PySem L2
section
variable {K : PySem.W.Frag} {g : Gh} {ω ω' : Wd} {ρ : En} {st st' : Cel} {σ : St} {H H' : Hp} {W : Wx} {X : Cx} {e a b : Expr}
abbrev W0 : Wx := fun _ _ _ _ _ _ _ => False
/-- an unshared list changes -/
theorem extUpd' {D : Addr} {o0 o : HO} (h : H D = some o0) (h0 : ¬ Stat o0) (hs : ¬ ω.S D) : Ext ω H ω (upd H D o) := ⟨fun _ z => z, ⟨[], by simp⟩, fun a u e s => by
  have ne : a ≠ D := by
    rintro rfl
    rcases s with s | s
    · exact hs s
    · rw [h] at e; cases e; exact h0 s
  rw [upd_ne ne]; exact e⟩
theorem extUpd {D : Addr} {vs : List V} {o : HO} (h : H D = some (.lst vs)) (hs : ¬ ω.S D) : Ext ω H ω (upd H D o) := extUpd' h id hs
theorem CelOk.upd' {D : Addr} {o0 o : HO} (c : CelOk K ω st H) (h : H D = some o0) (h0 : ¬ Stat o0) (hs : ¬ ω.S D) (hc : D ∉ ω.cs) : CelOk K ω st (L2.upd H D o) := by
  refine ⟨c.len, c.nd, c.out, fun a z => ?_, fun k a ha => ?_⟩
  · obtain ⟨u, q⟩ := c.trk a z
    exact ⟨u, by rw [upd_ne (fun e => hs (by rw [← e]; exact z))]; exact q⟩
  · obtain ⟨ws, ts, h1, h2, h3⟩ := c.at_ k a ha
    have ne : a ≠ D := fun e => hc (by rw [← e]; exact List.mem_of_getElem? ha)
    exact ⟨ws, ts, h1, by rw [upd_ne ne]; exact h2, h3.mono (extUpd' h h0 hs)⟩
theorem CelOk.upd {D : Addr} {vs : List V} {o : HO} (c : CelOk K ω st H) (h : H D = some (.lst vs)) (hs : ¬ ω.S D) (hc : D ∉ ω.cs) : CelOk K ω st (L2.upd H D o) := c.upd' h id hs hc
/-- all that stood ahead of D stays -/
theorem ExtE.updNew {ω0 : Wd} {H0 : Hp} {D : Addr} {o : HO} (x : ExtE ω0 H0 ω H) (h0 : H0 D = Option.none) : ExtE ω0 H0 ω (L2.upd H D o) := by
  refine ⟨x.sub, x.cs, fun a u e n => ?_, x.newS, x.newC, fun a u e => ?_⟩
  · rw [upd_ne (fun z => by rw [z, h0] at e; cases e)]; exact x.keep a u e n
  · rw [upd_ne (fun z => by rw [z, h0] at e; cases e)]; exact x.there a u e
/-- the state of a comprehension ahead of turn i -/
structure Lc (K : PySem.W.Frag) (ω0 : Wd) (H0 : Hp) (D : Addr) (f : PV → Cel → R (Option PV)) (xs : List PV) (full : List PV) (stF : Cel) (i : Nat) (H : Hp) : Prop where
  ex : ∃ ω st vs ys rest, ExtE ω0 H0 ω H ∧ CelOk K ω st H ∧ H D = some (.lst vs) ∧ ¬ ω.S D ∧ D ∉ ω.cs ∧ RepL K ω H vs ys ∧ compL f (xs.drop i) st = .ok rest stF ∧ full = ys ++ rest
/-- a turn's own computation -/
def turnF (Φ : Nat → List PV → Cel → R PV) (elt : C) (tg : List Nat) (ifs : Cs) (own : List Nat) (ρ : En) : PV → Cel → R (Option PV) := fun x st => match assignT tg x (wipeE ρ own) with
  | some ρ1 => (evt Φ ifs ρ1 st).bind fun b st => if b then (ev Φ elt ρ1 st).bind fun y st => .ok (some y) st else .ok none st
  | none => .bad
theorem drop_cons {α : Type} {xs : List α} {i : Nat} {x : α} (h : xs[i]? = some x) : xs.drop i = x :: xs.drop (i + 1) := by
  have hi : i < xs.length := by
    rcases Nat.lt_or_ge i xs.length with z | z
    · exact z
    · rw [List.getElem?_eq_none z] at h; cases h
  rw [List.drop_eq_getElem_cons hi]
  rw [List.getElem?_eq_getElem hi] at h
  rw [Option.some.inj h]
theorem comp_w {Φ : Nat → List PV → Cel → R PV} {elt : C} {tg own : List Nat} {it : C} {ifs : Cs} (hsub : ownOk tg own = true) : ∀ σ H Q, tvF K W (ev Φ (.comp elt tg it ifs own)) σ H Q →
    tLc (ti K true W (ev Φ it)) (gAsg K tg) (tvbb K W0 (evt Φ ifs)) (tv K false W0 (ev Φ elt)) own σ H Q := by
  intro σ H Q ⟨g, ω, ρ, st, rel, h⟩
  have hd : ev Φ (.comp elt tg it ifs own) ρ st = (ev Φ it ρ st).bind fun iv st => match itemsOf iv with
    | some xs => (compL (turnF Φ elt tg ifs own ρ) xs st).bind fun ys st => if szOk ys.length then .ok (.lst ys) st else .bad
    | none => .bad := by
    rw [ev]
    rfl
  rw [hd] at h
  refine ⟨g, ω, ρ, st, rel, ?_⟩
  cases e1 : ev Φ it ρ st with
  | bad => rw [e1] at h; exact h.elim
  | exc x s => rw [e1] at h; exact h
  | ok iv s =>
    rw [e1] at h
    simp only [R.bind_ok] at h
    cases e2 : itemsOf iv with
    | none => rw [e2] at h; exact h.elim
    | some xs =>
      rw [e2] at h
      refine ⟨xs, e2, fun J H1 ω1 x1 c1 hJ D hD => ?_⟩
      dsimp only at h
      cases e3 : compL (turnF Φ elt tg ifs own ρ) xs s with
      | bad => rw [e3] at h; exact h.elim
      | exc x s3 =>
        exfalso
        have : ∀ (l : List PV) (s : Cel), compL (turnF Φ elt tg ifs own ρ) l s ≠ .exc x s3 := by
          intro l
          induction l with
          | nil => intro s z; cases z
          | cons y ys ih =>
            intro s z
            unfold compL at z
            split at z
            · rename_i o st1 _
              cases q : compL (turnF Φ elt tg ifs own ρ) ys st1 with
              | ok l2 s2 => rw [q] at z; cases z
              | exc x2 s2 => rw [q] at z; cases z; exact ih st1 q
              | bad => rw [q] at z; cases z
            · cases z
        exact this xs s e3
      | ok full stF =>
        rw [e3] at h
        simp only [R.bind_ok] at h
        have hz : szOk full.length = true := by
          cases q : szOk full.length with
          | true => rfl
          | false => rw [q] at h; exact h.elim
        rw [if_pos hz] at h
        have hz' := szOk_le hz
        have nS : ¬ ω1.S D := fun z => by
          obtain ⟨o, q⟩ := c1.trk D z
          rw [hD] at q; cases q
        have nC : D ∉ ω1.cs := fun z => by
          obtain ⟨o, q⟩ := c1.lstAt z
          rw [hD] at q; cases q
        refine ⟨fun i m H => m = xs.length - i ∧ i ≤ xs.length ∧ Lc K ω1 H1 D (turnF Φ elt tg ifs own ρ) xs full stF i H, ⟨xs.length, by simp, Nat.zero_le _, ?_⟩, ?_⟩
        · refine ⟨ω1, s, [], [], full, (Grow.upd hD).toE, c1.grow (Grow.upd hD), upd_same, nS, nC, .nil, e3, rfl⟩
        · rintro i m H2 ⟨rfl, hi, ⟨ω2, st2, vs, ys, rest, x2, c2, hD2, nS2, nC2, r2, e4, e5⟩⟩
          obtain ⟨go, stop, yld⟩ := hJ ω2 H2 (x2.ext c1) (fun _ => x2)
          rcases Nat.lt_or_ge i xs.length with hlt | hge
          rotate_left
          · have ei : i = xs.length := by omega
            subst ei
            rw [List.drop_length] at e4
            cases e4
            rw [List.append_nil] at e5
            subst e5
            refine .inl ⟨stop, ?_⟩
            refine h _ _ ω2 (x1.trans x2) c2 ⟨D, vs, full, rfl, rfl, x1.none hD, hD2, nS2, nC2, r2⟩
          · refine .inr ⟨go i hlt, fun H' => i + 1 ≤ xs.length ∧ Lc K ω1 H1 D (turnF Φ elt tg ifs own ρ) xs full stF (i + 1) H', fun H' hN => ⟨xs.length - (i + 1), by omega, rfl, hN.1, hN.2⟩, fun x H3 hy => ?_⟩
            obtain ⟨ω3, t, w3, ex, rx⟩ := yld i x H3 hlt hy
            have hD3 : H3 D = some (.lst vs) := w3.keep _ _ hD2
            have nS3 : ¬ ω3.S D := fun z => by
              rcases w3.new D z with z | ⟨z, _⟩
              · exact nS2 z
              · rw [hD2] at z; cases z
            have nC3 : D ∉ ω3.cs := by rw [w3.cs]; exact nC2
            have rel3 : Rel K g ω3 ρ st2 σ H3 := (((rel.extE x1 c1).extE x2 c2)).grow w3
            have x3 : ExtE ω1 H1 ω3 H3 := x2.trans w3.toE
            have r3 := r2.mono w3.ext
            rw [drop_cons ex] at e4
            unfold compL at e4
            -- the target
            cases ea : assignT tg t (wipeE ρ own) with
            | none =>
              unfold turnF at e4
              rw [ea] at e4
              cases e4
            | some ρ1 =>
              have ef : turnF Φ elt tg ifs own ρ t st2 = (evt Φ ifs ρ1 st2).bind fun b st => if b then (ev Φ elt ρ1 st).bind fun y st => .ok (some y) st else .ok none st := by
                unfold turnF
                rw [ea]
              rw [ef] at e4
              refine gAsg_ok (rel3.wipe own) rx ea fun ws relT => ⟨wipe_tgS hsub, ?_⟩
              -- the tests
              refine ⟨g, ω3, ρ1, st2, relT, ?_⟩
              cases et : evt Φ ifs ρ1 st2 with
              | bad => rw [et] at e4; cases e4
              | exc x4 s4 => rw [et] at e4; cases e4
              | ok bv s4 =>
                rw [et] at e4
                simp only [R.bind_ok] at e4
                intro b4 H4 ω4 x4 c4 pb
                cases (show bv = b4 from pb)
                have hD4 : H4 D = some (.lst vs) := x4.keep _ _ hD3 nC3
                have nS4 : ¬ ω4.S D := fun z => by
                  rcases x4.newS D z with z | z
                  · exact nS3 z
                  · rw [hD3] at z; cases z
                have nC4 : D ∉ ω4.cs := fun z => by
                  rcases x4.newC D z with z | z
                  · exact nC3 z
                  · rw [hD3] at z; cases z
                have r4 := r3.mono (x4.ext relT.cells)
                cases bv with
                | false =>
                  rw [if_neg Bool.false_ne_true]
                  simp only [Bool.false_eq_true, if_false] at e4
                  cases e6 : compL (turnF Φ elt tg ifs own ρ) (xs.drop (i + 1)) s4 with
                  | bad => rw [e6] at e4; cases e4
                  | exc x6 s6 => rw [e6] at e4; cases e4
                  | ok rest' s6 =>
                    rw [e6] at e4
                    cases e4
                    exact ⟨hlt, ⟨ω4, s4, vs, ys, rest, x3.trans x4, c4, hD4, nS4, nC4, r4, e6, e5⟩⟩
                | true =>
                  rw [if_pos rfl]
                  simp only [if_true] at e4
                  refine ⟨g, ω4, ρ1, s4, relT.extE x4 c4, ?_⟩
                  cases ev5 : ev Φ elt ρ1 s4 with
                  | bad => rw [ev5] at e4; cases e4
                  | exc x6 s6 => rw [ev5] at e4; cases e4
                  | ok yv s5 =>
                    rw [ev5] at e4
                    simp only [R.bind_ok] at e4
                    intro y H5 ω5 x5 c5 py
                    have hD5 : H5 D = some (.lst vs) := x5.keep _ _ hD4 nC4
                    have nS5 : ¬ ω5.S D := fun z => by
                      rcases x5.newS D z with z | z
                      · exact nS4 z
                      · rw [hD4] at z; cases z
                    have nC5 : D ∉ ω5.cs := fun z => by
                      rcases x5.newC D z with z | z
                      · exact nC4 z
                      · rw [hD4] at z; cases z
                    have r5 := r4.mono (x5.ext c4)
                    cases e6 : compL (turnF Φ elt tg ifs own ρ) (xs.drop (i + 1)) s5 with
                    | bad => rw [e6] at e4; cases e4
                    | exc x6 s6 => rw [e6] at e4; cases e4
                    | ok rest' s6 =>
                      rw [e6] at e4
                      cases e4
                      refine ⟨vs, hD5, ?_, hlt, ⟨ω5, s5, vs ++ [y], ys ++ [yv], rest', ?_, c5.upd hD5 nS5 nC5, upd_same, nS5, nC5, ?_, e6, by rw [e5]; simp⟩⟩
                      · rw [r5.length]
                        have := congrArg List.length e5
                        simp at this
                        omega
                      · exact ((x3.trans x4).trans x5).updNew hD
                      · exact (r5.mono (extUpd hD5 nS5)).append (.cons (py.rep.mono (extUpd hD5 nS5)) .nil)
theorem sF_comp {Φ : Nat → List PV → Cel → R PV} {elt : C} {tg own : List Nat} {it : C} {ifs : Cs} (hpe : PE X e (tLc (ti X.K true W (ev Φ it)) (gAsg X.K tg) (tvbb X.K W0 (evt Φ ifs)) (tv X.K false W0 (ev Φ elt)) own)) (hsub : ownOk tg own = true) :
    PE X e (tvF X.K W (ev Φ (.comp elt tg it ifs own))) := wPE hpe (comp_w hsub)
end
end Ev
namespace Ev
open PySem L2
section
variable {X : Cx} {W : Wx} {e a b : Expr} {K : PySem.W.Frag} {g : Gh} {ω ω' : Wd} {ρ : En} {st st' : Cel} {σ : St} {H H' : Hp}
/-! ### repr of a display -/
def rRepr (K : PySem.W.Frag) : List V → Hp → VK → Prop := fun xs H Q => ∃ x d, xs = [x] ∧ Dp K H x d ∧ d.showable = true ∧ d.hasDict = false ∧ d.depth ≤ 60 ∧ d.shown.length ≤ sizeLine ∧ Q (.str d.shown) H
theorem cr_repr (hg : X.A.guards = some []) (hu : X.A.units + 64 < cLine) : CallR X (.builtin "repr") (rRepr X.K) := by
  intro pins s σ H xs us Q I r h
  obtain ⟨x, d, rfl, dp, h2, h3, h4, h5, q⟩ := h
  obtain ⟨u, rfl, rx⟩ := vals1 r
  obtain ⟨as, rd⟩ := Dp.reads I d _ _ dp rx
  have big : PyProof.Rows.isDisplay d = true → wpAny (model X.prog X.w) X.A (call (.builtin "repr") [u]) (EP X pins σ Q) X.xe s := fun h1 => by
    obtain ⟨p, rfl⟩ := PyProof.Rows.isRef_of_reads rd h1
    exact PySem.repr_of_reads' rd h2 (PyData.noDict_hsm h3) hg (by omega) (fun _ _ z => z) (fun h' u tk hk => ⟨.str d.shown, H, I.kept hk, ⟨_, rfl⟩, q⟩) h5
  cases rd with
  | none => exact PySem.P.repr_of_none ⟨.str _, H, I.tok _, ⟨_, rfl⟩, q⟩
  | bool b =>
    refine PySem.P.repr_of_bool ⟨.str _, H, I.tok _, ⟨_, rfl⟩, ?_⟩
    cases b <;> exact q
  | int i t => exact PySem.P.repr_of_int (of_decide_eq_true h2) ⟨.str _, H, I.tok _, ⟨_, rfl⟩, q⟩
  | str y t => exact PySem.P.repr_of_str ⟨.str _, H, I.tok _, ⟨_, rfl⟩, q⟩ h5
  | list _ _ _ _ => exact big rfl
  | tuple _ _ _ _ => exact big rfl
  | dict _ _ _ _ _ => cases h3
theorem vr_repr : VR1 K true (rC1 (rRepr K)) (fun _ => reprV) := by
  intro st x t z ω H Q c hx hv q
  dsimp only at hv
  unfold reprV at hv
  split at hv
  · rename_i d hd
    split at hv
    · rename_i hz
      cases hv
      simp only [Bool.and_eq_true, decide_eq_true_eq, Bool.not_eq_true'] at hz
      exact ⟨x, d, rfl, hx.dp hd, hz.1.1.1, hz.1.1.2, hz.1.2, szOk_le hz.2, q _ _ ω (Grow.refl ω H) (.str _)⟩
    · cases hv
  · cases hv
/-! ### l.index(x) -/
theorem indexD_some {d : PyData} : ∀ {zs : List PyData} {i j : Nat}, indexD d zs i = some j → ∃ n z, j = i + n ∧ zs[n]? = some z ∧ PyData.eqv z d = true ∧ ∀ m z', m < n → zs[m]? = some z' → PyData.eqv z' d = false
  | [], _, _, h => by cases h
  | z :: zs, i, j, h => by
    unfold indexD at h
    split at h
    · rename_i hz
      cases h
      exact ⟨0, z, rfl, rfl, hz, fun m _ hm => absurd hm (Nat.not_lt_zero _)⟩
    · rename_i hz
      obtain ⟨n, y, e1, e2, e3, e4⟩ := indexD_some h
      refine ⟨n + 1, y, by omega, by simpa using e2, e3, fun m z' hm hz' => ?_⟩
      cases m with
      | zero => simp at hz'; subst hz'; simpa using hz
      | succ m => exact e4 m z' (by omega) (by simpa using hz')
theorem se_index {f f' : En → Cel → R PV} {bz : Bool} (hpe : ∀ ta tb, PE X a ta → PE X b tb → PE X e (tBM X.K "list" (rIndexD X.K) ta (tCons tb tNil))) (ha : PE X a (tv X.K true W f)) (hb : PE X b (tv X.K true W f')) :
    PE X e (tv X.K bz W fun ρ st => (f ρ st).bind fun x st => match x with
      | .lst xs => (f' ρ st).bind fun y st => R.of (indexV (.lst xs) y) st
      | _ => .bad) := by
  refine wPE (hpe _ _ ha hb) fun σ H Q ⟨g, ω, ρ, st, rel, h⟩ => ?_
  -- the list is told by the answer
  refine (bindG (P := RepM X.K true) rel h).mono fun x H1 ⟨ω1, st1, t, x1, rel1, p, q⟩ => ?_
  cases t with
  | lst ts =>
    obtain ⟨l, vs, rfl, hl, rl⟩ := p.lst
    refine ⟨.inl ⟨rfl, vs, .inl (.inl hl)⟩, ?_⟩
    refine (bindG (P := RepM X.K true) (f := f') rel1 q).mono fun y H2 ⟨ω2, st2, u, x2, rel2, p2, q2⟩ => ?_
    obtain ⟨z, ez, qz⟩ := of_post rel2 q2
    have pp := p.extE x2 rel1.cells
    unfold indexV at ez
    split at ez
    · rename_i ds d hd he
      split at ez
      · rename_i hz
        simp only [Bool.and_eq_true] at hz
        cases ei : indexD d ds 0 with
        | none => rw [ei] at ez; cases ez
        | some j =>
          rw [ei] at ez
          cases ez
          obtain ⟨n, zz, e1, e2, e3, e4⟩ := indexD_some ei
          obtain rfl : j = n := by omega
          exact ⟨l, y, d, ds, j, zz, rfl, rfl, pp.dp hd, p2.dp he, hz.1, hz.2, e2, e3, e4, qz _ _ ω2 (Grow.refl _ _) (.int _)⟩
      · cases ez
    · cases ez
  | _ => exact q.elim
/-! ### dicts: a display, frozen for good -/
theorem valP_get : ∀ {kvs : List (Key × V)} {ts : List PV} {k : Key} {t : PV}, RepL K ω H (kvs.map (·.2)) ts → valP (kvs.map (·.1)) ts k = some t → ∃ v, valV kvs k = some v ∧ Rep K ω H v t
  | [], _, _, _, .nil, h => by cases h
  | q :: r, _, k, t, .cons h1 h2, h => by
    rw [List.map_cons, valP] at h
    split at h
    · rename_i e
      cases h
      exact ⟨q.2, valV_pos e, h1⟩
    · rename_i e
      obtain ⟨v, e1, e2⟩ := valP_get h2 h
      exact ⟨v, by rw [valV_neg e]; exact e1, e2⟩
theorem keyP_v {b : Bool} {y : V} {u : PV} {k : Key} (h : RepM K b ω H y u) (e : keyP u = some k) : y = kV k := by
  cases u with
  | int i => cases e; exact h.int
  | str x => cases e; exact h.str
  | _ => cases e
theorem se_dget {f f' : En → Cel → R PV} {bz : Bool} (hpe : ∀ ta tb, PE X a ta → PE X b tb → PE X e (tDGet ta tb)) (ha : PE X a (tv X.K true W f)) (hb : PE X b (tv X.K true W f')) :
    PE X e (tv X.K bz W fun ρ st => (f ρ st).bind fun x st => (f' ρ st).bind fun y st => R.of (dgetV x y) st) := by
  refine wPE (hpe _ _ ha hb) fun σ H Q ⟨g, ω, ρ, st, rel, h⟩ => (bindG (P := RepM X.K true) rel h).mono fun x H1 ⟨ω1, st1, t, x1, rel1, p, q⟩ => ?_
  refine (bindG (P := RepM X.K true) (f := f') rel1 q).mono fun y H2 ⟨ω2, st2, u, x2, rel2, p2, q2⟩ => ?_
  obtain ⟨z, ez, qz⟩ := of_post rel2 q2
  have pp := p.extE x2 rel1.cells
  unfold dgetV at ez
  split at ez
  · rename_i ks ts
    obtain ⟨d, o, kvs, rfl, hd, rfl, rv⟩ := pp.dct
    split at ez
    · rename_i k ek
      obtain ⟨v, e1, e2⟩ := valP_get rv ez
      exact ⟨d, v, rfl, .inl ⟨kvs, k, .inr ⟨o, hd⟩, keyP_v p2 ek, e1.symm⟩, qz _ _ ω2 (Grow.refl _ _) e2⟩
    · cases ez
  · cases ez
/-- behind an expression that makes a new dict: it is locked for good -/
def tFrz (t : TE) : TE := fun σ H Q => t σ H fun v H1 => ∃ p u, v = .ref p ∧ H1 p = some u ∧ Mut (some u) ∧ ∀ od, Q v (upd H1 p (.frz od u))
theorem pe_frz {t : TE} (h : PE X e t) : PE X e (tFrz t) := ⟨fun pins s σ H Q I q => thn (h.run pins s σ H _ I q) fun v s1 ⟨x, H1, I1, r, p, u, e1, e2, mu, q1⟩ => by
  obtain ⟨od, I2⟩ := I1.lock e2 mu
  exact ⟨x, _, I2, r, q1 od⟩⟩
/-- pairs, one behind the other -/
def unP : List (V × V) → List V
  | [] => []
  | q :: r => q.1 :: q.2 :: unP r
def RPs (K : PySem.W.Frag) : RX (List PV) (List (V × V)) := fun ω H ps ts => RepL K ω H (unP ps) ts
theorem pairsP_v : ∀ {ps : List (V × V)} {ts : List PV} {ks : List Key} {us : List PV}, RepL K ω H (unP ps) ts → pairsP ts = some (ks, us) → ∃ kvs : List (Key × V), ps = kvs.map (fun kv => (kV kv.1, kv.2)) ∧ kvs.map (·.1) = ks ∧ RepL K ω H (kvs.map (·.2)) us
  | [], _, _, _, .nil, h => by cases h; exact ⟨[], rfl, rfl, .nil⟩
  | q :: r, _, ks, us, .cons h1 (.cons h2 h3), h => by
    rename_i t1 t2 t3
    rw [pairsP] at h
    split at h
    · rename_i k q' e1 e2
      cases h
      obtain ⟨kvs, e3, e4, e5⟩ := pairsP_v (ks := q'.1) (us := q'.2) h3 (by rw [e2])
      refine ⟨(k, q.2) :: kvs, ?_, by rw [List.map_cons, e4], .cons h2 e5⟩
      rw [List.map_cons, ← e3]
      have := keyP_v (b := false) (.inl h1) e1
      rw [← this]
    · cases h
theorem mergeK_id : ∀ {kvs acc : List (Key × V)}, (kvs.map (·.1)).Nodup → (∀ k ∈ kvs.map (·.1), k ∉ acc.map (·.1)) → mergeK acc kvs = acc ++ kvs
  | [], acc, _, _ => by simp [mergeK]
  | q :: r, acc, nd, hx => by
    have h0 : q.1 ∉ acc.map (·.1) := hx _ (by simp)
    have hv : valV acc q.1 = none := by
      unfold valV
      rw [Option.map_eq_none_iff, List.find?_eq_none]
      intro z hz he
      exact h0 (List.mem_map.mpr ⟨z, hz, of_decide_eq_true he⟩)
    show mergeK (putK acc q.1 q.2) r = _
    rw [putK_new q.2 hv]
    rw [List.map_cons, List.nodup_cons] at nd
    rw [mergeK_id nd.2 (fun k hk z => by
      rw [List.map_append] at z
      rcases List.mem_append.mp z with z | z
      · exact hx k (by rw [List.map_cons]; exact List.mem_cons_of_mem _ hk) z
      · simp at z
        subst z
        exact nd.1 hk)]
    simp
/-- the pairs of a display -/
structure SPs (X : Cx) (W : Wx) (pos : Pos) (keys : List (Option Expr)) (values : List Expr) (f : En → Cel → R (List PV)) : Prop where
  ex : ∃ trs, PPs X pos keys values trs ∧ ∀ σ H Q, tG (RPs X.K) X.K W f σ H Q → tPairs trs σ H Q
theorem sp_nil {pos : Pos} : SPs X W pos [] [] (fun _ st => .ok [] st) := ⟨[], pps_nil, fun σ H Q ⟨g, ω, ρ, st, rel, q⟩ => postOk (x := ([] : List (V × V))) rel q .nil⟩
theorem sp_cons {pos : Pos} {k v : Expr} {ks : List (Option Expr)} {vs : List Expr} {f f' : En → Cel → R PV} {fr : En → Cel → R (List PV)} (hk : PE X k (tv X.K false W f)) (hv : PE X v (tv X.K false W f')) (hr : SPs X W pos ks vs fr) :
    SPs X W pos (some k :: ks) (v :: vs) (fun ρ st => (f ρ st).bind fun x st => ((f' ρ st).bind fun x st => (fr ρ st).bind fun xs st => .ok (x :: xs) st).bind fun xs st => .ok (x :: xs) st) := by
  obtain ⟨trs, p1, w1⟩ := hr.ex
  refine ⟨_ :: trs, pps_cons hk hv p1, fun σ H Q ⟨g, ω, ρ, st, rel, h⟩ => (bindG (P := RepM X.K false) rel h).mono fun x H1 ⟨ω1, st1, t, x1, rel1, p, q⟩ => ?_⟩
  have ea : ∀ r : R PV, ((r.bind fun x st => (fr ρ st).bind fun xs st => R.ok (x :: xs) st).bind fun xs st => R.ok (t :: xs) st) = r.bind fun y st => (fr ρ st).bind fun xs st => .ok (t :: y :: xs) st := fun r => by
    cases r with
    | ok y s => simp only [R.bind_ok]; cases fr ρ s <;> rfl
    | exc e s => rfl
    | bad => rfl
  rw [ea] at q
  refine (bindG (P := RepM X.K false) (f := f') rel1 q).mono fun y H2 ⟨ω2, st2, u, x2, rel2, p2, q2⟩ => ?_
  refine w1 _ _ _ ((bindG (P := RPs X.K) (f := fr) rel2 q2).mono fun ps H3 ⟨ω3, st3, ts, x3, rel3, p3, q3⟩ => ?_)
  exact postOk (x := (x, y) :: ps) rel3 q3 (.cons ((p.extE x2 rel1.cells).extE x3 rel2.cells).rep (.cons (p2.extE x3 rel2.cells).rep p3))
theorem Grow.updE {p : Addr} {o : HO} (h : H p = none) : ExtE ω H ω (L2.upd H p o) := (Grow.upd h).toE
theorem se_dct {pos : Pos} {keys : List (Option Expr)} {values : List Expr} {f : En → Cel → R (List PV)} {bz : Bool} (hp : SPs X W pos keys values f) (h1 : keys.all (·.isSome) = true) (h2 : keys.length = values.length) (h3 : keys ≠ []) (h4 : keys.length ≤ 15) :
    PE X (.Dict keys values pos) (tv X.K bz W fun ρ st => (f ρ st).bind fun xs st => R.of (dctV xs) st) := by
  obtain ⟨trs, p1, w1⟩ := hp.ex
  refine wPE (pe_frz (pe_disp p1 h1 h2 h3 h4)) fun σ H Q ⟨g, ω, ρ, st, rel, h⟩ p hp => ?_
  have rel0 := rel.grow (Grow.upd (ω := ω) (o := .dK []) hp)
  have np : p ∉ ω.cs := fun z => by
    obtain ⟨vs, z⟩ := rel.cells.lstAt z
    rw [hp] at z; cases z
  have ns : ¬ ω.S p := fun z => by
    obtain ⟨o, z⟩ := rel.cells.trk p z
    rw [hp] at z; cases z
  refine w1 _ _ _ ⟨g, ω, ρ, st, rel0, ?_⟩
  dsimp only at h
  cases ef : f ρ st with
  | bad => rw [ef] at h; exact h
  | exc x s =>
    rw [ef] at h
    exact fun H' ω' y c => h H' ω' ((Grow.updE hp).trans y) c
  | ok ts s =>
    rw [ef] at h
    intro ps H2 ω2 x2 c2 pr
    have e2 : H2 p = some (.dK []) := x2.keep p _ upd_same np
    have ns2 : ¬ ω2.S p := fun z => by
      rcases x2.newS p z with z | z
      · exact ns z
      · rw [upd_same] at z; cases z
    have np2 : p ∉ ω2.cs := fun z => by
      rcases x2.newC p z with z | z
      · exact np z
      · rw [upd_same] at z; cases z
    simp only [R.bind_ok] at h
    cases ed : dctV ts with
    | none => rw [ed] at h; exact h.elim
    | some z =>
      rw [ed] at h
      unfold dctV at ed
      split at ed
      · rename_i pq epq
        split at ed
        · rename_i hz
          cases ed
          obtain ⟨kvs, k1, k2, k3⟩ := pairsP_v (ks := pq.1) (us := pq.2) pr epq
          have hl : kvs.length ≤ 15 := by
            have := hz.2
            rw [← k2, List.length_map] at this
            exact this
          refine ⟨e2, kvs, k1, hl, p, .dK (mergeK [] kvs), rfl, upd_same, trivial, fun od => ?_⟩
          have em : mergeK [] kvs = kvs := by
            rw [mergeK_id (by rw [k2]; exact hz.1) (by simp)]
            rfl
          rw [em]
          have hu : upd (upd H2 p (.dK kvs)) p (.frz od (.dK kvs)) = upd H2 p (.frz od (.dK kvs)) := by
            funext b
            unfold upd
            split <;> rfl
          rw [hu]
          have xt : Ext ω2 H2 ω2 (upd H2 p (.frz od (.dK kvs))) := by
            refine ⟨fun _ z => z, ⟨[], by simp⟩, fun a o ea sa => ?_⟩
            have : a ≠ p := fun z => by
              subst z
              rcases sa with sa | sa
              · exact ns2 sa
              · rw [e2] at ea; cases ea; exact sa
            rw [upd_ne this]; exact ea
          have ne : ∀ a o, H a = some o → a ≠ p := fun a o ea z => by rw [z, hp] at ea; cases ea
          have ex : ExtE ω H ω2 (upd H2 p (.frz od (.dK kvs))) := by
            have y := (Grow.updE (ω := ω) (o := .dK []) hp).trans x2
            refine ⟨y.sub, y.cs, fun a o ea na => by rw [upd_ne (ne a o ea)]; exact y.keep a o ea na, y.newS, y.newC, fun a o ea => ?_⟩
            rw [upd_ne (ne a o ea)]
            exact y.there a o ea
          have cc : CelOk X.K ω2 s (upd H2 p (.frz od (.dK kvs))) := by
            refine ⟨c2.len, c2.nd, c2.out, fun a z => ?_, fun k a ha => ?_⟩
            · rw [upd_ne (fun e => ns2 (by rw [← e]; exact z))]; exact c2.trk a z
            · obtain ⟨vs, us, q1, q2, q3⟩ := c2.at_ k a ha
              exact ⟨vs, us, q1, by rw [upd_ne (fun e => np2 (by rw [← e]; exact List.mem_of_getElem? ha))]; exact q2, q3.mono xt⟩
          refine h _ _ ω2 ex cc (.inl ?_)
          rw [← k2]
          exact .dct upd_same (k3.mono xt)
        · cases ed
      · cases ed
end
end Ev
namespace Ev
open PySem PySem.Spec PyProof.Rows PySem.W
/-! ### a, b, *rest = tuple -/
theorem star_items {prog : Program} {w : World} {A : Around} {E : Value → Shared → Prop} {s : Shared} {l : Addr} {its : Array Value} {n : Nat} {Q : List Value → Shared → Prop} (hl : IsTup s.heap l its) (hh : A.handled = none) (hn : n ≤ its.size) (hz : its.size ≤ 16384)
    (h : ∀ (h2 : Heap) tk, (∀ b o, s.heap.get? b = some o → h2.get? b = some o) → Q (its.toList.take n ++ [.ref h2.objs.size]) { s with heap := h2.push { cls := .type "list", data := .seq (its.toList.drop n).toArray }, toks := tk }) :
    wpAny (model prog w) A (unpackItems (.ref l) (n + 1) (some n)) Q E s := by
  have hll : l < s.heap.objs.size := by
    obtain ⟨o, ho, _⟩ := hl
    exact Heap.lt_size ho
  have nel : l ≠ s.heap.objs.size := Nat.ne_of_lt hll
  unfold unpackItems notIterableAtAll
  refine wpAny_bind (wpAny_bind (wpAny_specialOf hl.typeIs slot_tuple_iter.lookup (wpAny_pure ?_)))
  rw [if_neg Bool.false_ne_true]
  refine wpAny_bind (wpAny_holding (iter_tuple hl (wpAny_bind (wpAny_holding ?_))))
  refine draw_tuple nel n 0 _ _ ⟨_, Heap.get?_push_size _ rfl, rfl, rfl⟩ (hl.push _) (by omega) fun h1 it1 same => ?_
  have t1 : IsTup h1 l its := (hl.push _).extBut same.extBut nel
  rw [Nat.zero_add] at it1
  rw [List.drop_zero]
  obtain ⟨oi, goi, _⟩ := id it1
  obtain ⟨ol, gol, _⟩ := id t1
  have lt : (its.toList.take n).length = n := by
    rw [List.length_take, Array.length_toList]
    omega
  have ld : (its.toList.drop n).length = its.size - n := by rw [List.length_drop, Array.length_toList]
  rw [if_neg (by rw [lt]; exact Nat.lt_irrefl n)]
  refine wpAny_bind (wpAny_holding ?_)
  refine kun_collect (s := { s with heap := h1 }) (T := "tuple_iterator") (.inr (.inr (.inr rfl))) (Walks.tuple (A := A.in1) hh s.heap.objs.size l nel its) (fun _ _ z => z.1.typeIs) hn ⟨it1, t1⟩ (Heap.lt_size goi) (Heap.lt_size gol) (fun h2 tk kp => ?_) (by rw [sizeLine_eq]; omega)
  show wpAny _ _ (if (its.toList.drop n).length < n + 1 - 1 - n then _ else _) _ _ _
  have e0 : n + 1 - 1 - n = 0 := by omega
  rw [e0, if_neg (Nat.not_lt_zero _)]
  show wpAny _ _ (newList ((its.toList.drop n).take ((its.toList.drop n).length - 0)) >>= fun d => pure (its.toList.take n ++ [d] ++ (its.toList.drop n).drop ((its.toList.drop n).length - 0))) _ _ _
  rw [Nat.sub_zero, List.take_length, List.drop_length]
  have old : ∀ b o, s.heap.get? b = some o → h2.get? b = some o := fun b o e => by
    have nb : b ≠ s.heap.objs.size := Nat.ne_of_lt (Heap.lt_size e)
    exact kp b o nb (same.extBut b o nb (Heap.get?_push_of_some _ e))
  refine wpAny_bind (wpAny_newList (wpAny_pure ?_) (by rw [ld, sizeLine_eq]; omega))
  rw [List.append_nil]
  exact h h2 tk old
end Ev
namespace Ev
open PySem L2
def gStar (K : PySem.W.Frag) (n : Nat) (t : TGs) : TG := fun v σ H Q => ∃ a xs, v = .ref a ∧ SqT K H a xs ∧ n ≤ xs.length ∧ xs.length ≤ 16384 ∧ ∀ D, H D = none → t (xs.take n ++ [.ref D]) σ (upd H D (.lst (xs.drop n))) Q
theorem pg_star {X : Cx} {es : List Expr} {k n : Nat} {pos : Pos} {t : TGs} (hc : X.calm = true) (h : PGs X es t) (hn : (assignEach es X.env).length = n + 1) (hst : (assignEach es X.env).findIdx? (·.1) = some n) : PG X (.Tuple es k pos) (gStar X.K n t) := by
  refine ⟨fun pins s σ H v u Q I r ⟨a, xs, e1, hq, hl, hz, hw⟩ => ?_⟩
  subst e1
  cases r
  obtain ⟨its, rv, ht, hs⟩ := I.tuple hq
  have le : its.toArray.size = xs.length := by rw [List.size_toArray, rv.length]
  rw [PyProof.Rows.assign_Tuple]
  refine wpAny_bind (wpAny_standAt ?_)
  unfold unpack
  rw [hn, hst]
  refine wpAny_bind (wpAny_holding (star_items ht (I.ok.hd hc) (by omega) (by omega) fun h2 tk old => ?_))
  have I2 : Inv X pins σ H { s with heap := h2, toks := tk } := I.kept old
  have I3 := I2.laid (a := h2.objs.size) (o := .lst (xs.drop n)) (h' := h2.push { cls := .type "list", data := .seq (its.drop n).toArray }) (t' := tk) (fun _ _ q => Heap.get?_push_of_some _ q) (Nat.le_refl _)
    ⟨by rw [List.length_drop]; have := sizeLine_eq; omega, its.drop n, 0, rv.drop n, Heap.get?_push_size _ rfl⟩
  exact h.run pins _ σ _ _ _ Q I3 ((rv.take n).append (.cons (show RelV (.ref h2.objs.size) (.ref h2.objs.size) from rfl) .nil)) (hw _ (I2.hok.fresh (Nat.le_refl _)))
end Ev
namespace Ev
open PySem L2
section
variable {X : Cx} {W : Wx} {e a b : Expr} {K : PySem.W.Frag} {g : Gh} {ω ω' : Wd} {ρ : En} {st st' : Cel} {σ : St} {H H' : Hp}
/-! ### comprehensions of two clauses -/
def turn2 (Φ : Nat → List PV → Cel → R PV) (elt : C) (tg : List Nat) (tg2 : List Nat) (it2 : C) (ifs : Cs) (own own2 : List Nat) (ρ : En) : PV → Cel → R (List PV) := fun x st => match assignT tg x (wipeE ρ own) with
  | some ρ1 => (ev Φ it2 ρ1 st).bind fun iv2 st => (match itemsOf iv2 with
    | some ys => compL (turnF Φ elt tg2 ifs own2 ρ1) ys st
    | none => .bad)
  | none => .bad
structure Lc2 (K : PySem.W.Frag) (ω0 : Wd) (H0 : Hp) (D : Addr) (f : PV → Cel → R (List PV)) (xs : List PV) (full : List PV) (stF : Cel) (i : Nat) (H : Hp) : Prop where
  ex : ∃ ω st vs ys rest, ExtE ω0 H0 ω H ∧ CelOk K ω st H ∧ H D = some (.lst vs) ∧ ¬ ω.S D ∧ D ∉ ω.cs ∧ RepL K ω H vs ys ∧ flatL f (xs.drop i) st = .ok rest stF ∧ full = ys ++ rest
theorem compL_noexc {f : PV → Cel → R (Option PV)} {x : EX} {s3 : Cel} : ∀ (l : List PV) (s : Cel), compL f l s ≠ .exc x s3
  | [], s, z => by cases z
  | y :: ys, s, z => by
    unfold compL at z
    split at z
    · rename_i o st1 _
      cases q : compL f ys st1 with
      | ok l2 s2 => rw [q] at z; cases z
      | exc x2 s2 => rw [q] at z; cases z; exact compL_noexc ys st1 q
      | bad => rw [q] at z; cases z
    · cases z
theorem flatL_noexc {f : PV → Cel → R (List PV)} {x : EX} {s3 : Cel} : ∀ (l : List PV) (s : Cel), flatL f l s ≠ .exc x s3
  | [], s, z => by cases z
  | y :: ys, s, z => by
    unfold flatL at z
    split at z
    · rename_i o st1 _
      cases q : flatL f ys st1 with
      | ok l2 s2 => rw [q] at z; cases z
      | exc x2 s2 => rw [q] at z; cases z; exact flatL_noexc ys st1 q
      | bad => rw [q] at z; cases z
    · cases z
/-- D stands apart -/
structure Apt (D : Addr) (vs : List V) (ω : Wd) (H : Hp) : Prop where
  at_ : H D = some (.lst vs)
  nS : ¬ ω.S D
  nC : D ∉ ω.cs
theorem Apt.extE {D : Addr} {vs : List V} (p : Apt D vs ω H) (x : ExtE ω H ω' H') : Apt D vs ω' H' := by
  refine ⟨x.keep _ _ p.at_ p.nC, fun z => ?_, fun z => ?_⟩
  · rcases x.newS D z with z | z
    · exact p.nS z
    · rw [p.at_] at z; cases z
  · rcases x.newC D z with z | z
    · exact p.nC z
    · rw [p.at_] at z; cases z
theorem Apt.grow {D : Addr} {vs : List V} (p : Apt D vs ω H) (x : Grow ω H ω' H') : Apt D vs ω' H' := by
  refine ⟨x.keep _ _ p.at_, fun z => ?_, by rw [x.cs]; exact p.nC⟩
  rcases x.new D z with z | ⟨z, _⟩
  · exact p.nS z
  · rw [p.at_] at z; cases z
/-- what a target is given -/
def TgOk (K : PySem.W.Frag) (ω : Wd) (H : Hp) (tg : List Nat) (x : V) (t : PV) (vs : List V) : Prop := match tg with
  | [_] => Rep K ω H x t
  | is => ∃ ts, (t = .tup ts ∨ t = .lst ts) ∧ RepL K ω H vs ts ∧ vs.length = is.length
theorem TgOk.mono {tg : List Nat} {x : V} {t : PV} {vs : List V} (h : TgOk K ω H tg x t vs) (e : Ext ω H ω' H') : TgOk K ω' H' tg x t vs := by
  match tg, h with
  | [_], h => exact Rep.mono e h
  | [], ⟨ts, h1, h2, h3⟩ => exact ⟨ts, h1, h2.mono e, h3⟩
  | _ :: _ :: _, ⟨ts, h1, h2, h3⟩ => exact ⟨ts, h1, h2.mono e, h3⟩
theorem sets_rel : ∀ (is : List Nat) {vs : List V} {ts : List PV} {ρ : En} {σ : St}, Rel K g ω ρ st σ H → RepL K ω H vs ts → vs.length = is.length → Rel K g ω (setAll ρ (is.zip ts)) st (setS σ is vs) H
  | [], _, _, _, _, r, .nil, _ => r
  | i :: is, _, _, ρ, σ, r, .cons h hs, hl => sets_rel is (r.set i h) hs (by simpa using hl)
theorem tg_rel {tg : List Nat} {x : V} {t : PV} {vs : List V} {ρ' : En} (r : Rel K g ω ρ st σ H) (h : TgOk K ω H tg x t vs) (hn : nested tg = false) (e : assignT tg t ρ = some ρ') : Rel K g ω ρ' st (tgS σ tg x vs) H := by
  match tg, h, hn, e with
  | [i], h, _, e => cases e; exact r.set i h
  | [], ⟨ts, h1, h2, h3⟩, hn, e =>
    unfold assignT at e
    dsimp only at e
    rw [hn, if_neg (by decide)] at e
    rcases h1 with rfl | rfl <;> (dsimp only at e; split at e <;> cases e; exact sets_rel [] r h2 h3)
  | i :: j :: is, ⟨ts, h1, h2, h3⟩, hn, e =>
    unfold assignT at e
    dsimp only at e
    rw [hn, if_neg (by decide)] at e
    unfold tgS
    dsimp only
    rw [hn, if_neg (by decide)]
    rcases h1 with rfl | rfl <;> (dsimp only at e; split at e <;> cases e; exact sets_rel (i :: j :: is) r h2 h3)
theorem gAsg_ok2 {tg : List Nat} {x : V} {t : PV} {ρ' : En} {Q : St → Hp → Prop} (hn : nested tg = false) (r : Rel K g ω ρ st σ H) (h : Rep K ω H x t) (e : assignT tg t ρ = some ρ') (q : ∀ vs, TgOk K ω H tg x t vs → Rel K g ω ρ' st (tgS σ tg x vs) H → Q (tgS σ tg x vs) H) : gAsg K tg x σ H Q := by
  match tg, hn, e, q with
  | [i], _, e, q => cases e; exact q [] h (r.set i h)
  | [], hn, e, q =>
    unfold assignT at e
    dsimp only at e
    rw [hn, if_neg (by decide)] at e
    cases t with
    | tup xs =>
      dsimp only at e
      split at e
      · rename_i hl
        cases e
        cases h with
        | @tup a vs _ h1 h2 => exact .inl ⟨a, vs, rfl, h1, by rw [h2.length]; exact hl, gNames_ok [] r h2 (by rw [h2.length]; exact hl) fun r' => q vs ⟨xs, .inl rfl, h2, by rw [h2.length]; exact hl⟩ r'⟩
      · cases e
    | lst xs =>
      dsimp only at e
      split at e
      · rename_i hl
        cases e
        cases h with
        | @lst a vs _ hs h1 h2 => exact .inr ⟨a, vs, rfl, .inl (.inl h1), by rw [h2.length]; exact hl, gNames_ok [] r h2 (by rw [h2.length]; exact hl) fun r' => q vs ⟨xs, .inr rfl, h2, by rw [h2.length]; exact hl⟩ r'⟩
      · cases e
    | _ => cases e
  | i :: j :: is, hn, e, q =>
    unfold assignT at e
    dsimp only at e
    rw [hn, if_neg (by decide)] at e
    unfold tgS at q
    dsimp only at q
    rw [hn] at q
    simp only [Bool.false_eq_true, if_false] at q
    unfold gAsg
    dsimp only
    rw [hn, if_neg (by decide)]
    cases t with
    | tup xs =>
      dsimp only at e
      split at e
      · rename_i hl
        cases e
        cases h with
        | @tup a vs _ h1 h2 => exact .inl ⟨a, vs, rfl, h1, by rw [h2.length]; exact hl, gNames_ok (i :: j :: is) r h2 (by rw [h2.length]; exact hl) fun r' => q vs ⟨xs, .inl rfl, h2, by rw [h2.length]; exact hl⟩ r'⟩
      · cases e
    | lst xs =>
      dsimp only at e
      split at e
      · rename_i hl
        cases e
        cases h with
        | @lst a vs _ hs h1 h2 => exact .inr ⟨a, vs, rfl, .inl (.inl h1), by rw [h2.length]; exact hl, gNames_ok (i :: j :: is) r h2 (by rw [h2.length]; exact hl) fun r' => q vs ⟨xs, .inr rfl, h2, by rw [h2.length]; exact hl⟩ r'⟩
      · cases e
    | _ => cases e
/-- the second clause's state ahead of its turn j -/
structure Lc3 (K : PySem.W.Frag) (ω1 : Wd) (H1 : Hp) (ω4 : Wd) (H4 : Hp) (D : Addr) (f : PV → Cel → R (Option PV)) (xs : List PV) (full : List PV) (stF : Cel) (i : Nat) (H : Hp) : Prop where
  ex : ∃ ω st vs ys rest, Ext ω4 H4 ω H ∧ ExtE ω1 H1 ω H ∧ CelOk K ω st H ∧ Apt D vs ω H ∧ RepL K ω H vs ys ∧ compL f (xs.drop i) st = .ok rest stF ∧ full = ys ++ rest
theorem comp2_w {Φ : Nat → List PV → Cel → R PV} {elt : C} {tg tg2 own own2 : List Nat} {it it2 : C} {ifs : Cs} (hn : nested tg = false) (hsub : ownOk tg own = true) (hsub2 : ownOk tg2 own2 = true) : ∀ σ H Q, tvF K W (ev Φ (.comp2 elt tg it tg2 it2 ifs own own2)) σ H Q →
    tLc2 (ti K true W (ev Φ it)) (gAsg K tg) tYes (ti K false W0 (ev Φ it2)) (gAsg K tg2) (tvbb K W0 (evt Φ ifs)) (tv K false W0 (ev Φ elt)) own own2 σ H Q := by
  intro σ H Q ⟨g, ω, ρ, st, rel, h⟩
  have hd : ev Φ (.comp2 elt tg it tg2 it2 ifs own own2) ρ st = (ev Φ it ρ st).bind fun iv st => match itemsOf iv with
    | some xs => (flatL (turn2 Φ elt tg tg2 it2 ifs own own2 ρ) xs st).bind fun ys st => if szOk ys.length then .ok (.lst ys) st else .bad
    | none => .bad := by
    rw [ev]
    rfl
  rw [hd] at h
  refine ⟨g, ω, ρ, st, rel, ?_⟩
  cases e1 : ev Φ it ρ st with
  | bad => rw [e1] at h; exact h.elim
  | exc x s => rw [e1] at h; exact h
  | ok iv s =>
    rw [e1] at h
    simp only [R.bind_ok] at h
    cases e2 : itemsOf iv with
    | none => rw [e2] at h; exact h.elim
    | some xs =>
      rw [e2] at h
      refine ⟨xs, e2, fun J H1 ω1 x1 c1 hJ D hD => ?_⟩
      dsimp only at h
      cases e3 : flatL (turn2 Φ elt tg tg2 it2 ifs own own2 ρ) xs s with
      | bad => rw [e3] at h; exact h.elim
      | exc x s3 => exact absurd e3 (flatL_noexc xs s)
      | ok full stF =>
        rw [e3] at h
        simp only [R.bind_ok] at h
        have hz : szOk full.length = true := by
          cases q : szOk full.length with
          | true => rfl
          | false => rw [q] at h; exact h.elim
        rw [if_pos hz] at h
        have hz' := szOk_le hz
        have nS : ¬ ω1.S D := fun z => by obtain ⟨o, q⟩ := c1.trk D z; rw [hD] at q; cases q
        have nC : D ∉ ω1.cs := fun z => by obtain ⟨o, q⟩ := c1.lstAt z; rw [hD] at q; cases q
        refine ⟨fun i m H => m = xs.length - i ∧ i ≤ xs.length ∧ Lc2 K ω1 H1 D (turn2 Φ elt tg tg2 it2 ifs own own2 ρ) xs full stF i H, ⟨xs.length, by simp, Nat.zero_le _, ⟨ω1, s, [], [], full, (Grow.upd hD).toE, c1.grow (Grow.upd hD), upd_same, nS, nC, .nil, e3, rfl⟩⟩, ?_⟩
        rintro i m H2 ⟨rfl, hi, ⟨ω2, st2, vs, ys, rest, x2, c2, hD2, nS2, nC2, r2, e4, e5⟩⟩
        obtain ⟨go, stop, yld⟩ := hJ ω2 H2 (x2.ext c1) (fun _ => x2)
        rcases Nat.lt_or_ge i xs.length with hlt | hge
        rotate_left
        · have ei : i = xs.length := by omega
          subst ei
          rw [List.drop_length] at e4
          cases e4
          rw [List.append_nil] at e5
          subst e5
          exact .inl ⟨stop, h _ _ ω2 (x1.trans x2) c2 ⟨D, vs, full, rfl, rfl, x1.none hD, hD2, nS2, nC2, r2⟩⟩
        · refine .inr ⟨go i hlt, fun H' => i + 1 ≤ xs.length ∧ Lc2 K ω1 H1 D (turn2 Φ elt tg tg2 it2 ifs own own2 ρ) xs full stF (i + 1) H', fun H' hN => ⟨xs.length - (i + 1), by omega, rfl, hN.1, hN.2⟩, fun x H3 hy => ?_⟩
          obtain ⟨ω3, t, w3, ex, rx⟩ := yld i x H3 hlt hy
          have A3 : Apt D vs ω3 H3 := (Apt.mk hD2 nS2 nC2).grow w3
          have rel3 : Rel K g ω3 ρ st2 σ H3 := (((rel.extE x1 c1).extE x2 c2)).grow w3
          have x3 : ExtE ω1 H1 ω3 H3 := x2.trans w3.toE
          have r3 := r2.mono w3.ext
          rw [drop_cons ex] at e4
          unfold flatL at e4
          cases ea : assignT tg t (wipeE ρ own) with
          | none => unfold turn2 at e4; rw [ea] at e4; cases e4
          | some ρ1 =>
            have ef : turn2 Φ elt tg tg2 it2 ifs own own2 ρ t st2 = (ev Φ it2 ρ1 st2).bind fun iv2 st => (match itemsOf iv2 with
              | some ys => compL (turnF Φ elt tg2 ifs own2 ρ1) ys st
              | none => .bad) := by unfold turn2; rw [ea]
            rw [ef] at e4
            refine gAsg_ok2 hn (rel3.wipe own) rx ea fun ws tgo relT => ⟨wipe_tgS hsub, ?_⟩
            unfold tYes
            dsimp only
            rw [if_pos rfl]
            -- the second clause
            refine ⟨g, ω3, ρ1, st2, relT, ?_⟩
            cases ei2 : ev Φ it2 ρ1 st2 with
            | bad => rw [ei2] at e4; cases e4
            | exc x4 s4 => rw [ei2] at e4; cases e4
            | ok iv2 s4 =>
              rw [ei2] at e4
              simp only [R.bind_ok] at e4
              cases ej : itemsOf iv2 with
              | none => rw [ej] at e4; cases e4
              | some zs =>
                rw [ej] at e4
                dsimp only at e4
                refine ⟨zs, ej, fun J1 H4 ω4 x4 c4 hJ1 => ?_⟩
                cases ec : compL (turnF Φ elt tg2 ifs own2 ρ1) zs s4 with
                | bad => rw [ec] at e4; cases e4
                | exc x5 s5 => exact absurd ec (compL_noexc zs s4)
                | ok more s5 =>
                  rw [ec] at e4
                  dsimp only at e4
                  cases er : flatL (turn2 Φ elt tg tg2 it2 ifs own own2 ρ) (xs.drop (i + 1)) s5 with
                  | bad => rw [er] at e4; cases e4
                  | exc x6 s6 => exact absurd er (flatL_noexc _ _)
                  | ok rest' s6 =>
                    rw [er] at e4
                    cases e4
                    have A4 := A3.extE x4
                    have r4 := r3.mono (x4.ext relT.cells)
                    have x14 : ExtE ω1 H1 ω4 H4 := x3.trans x4
                    refine ⟨fun j k H => k = zs.length - j ∧ j ≤ zs.length ∧ Lc3 K ω1 H1 ω4 H4 D (turnF Φ elt tg2 ifs own2 ρ1) zs (ys ++ more) s5 j H, ⟨zs.length, by simp, Nat.zero_le _, ⟨ω4, s4, vs, ys, more, Ext.refl _ _, x14, c4, A4, r4, ec, rfl⟩⟩, ?_⟩
                    rintro j k H5 ⟨rfl, hj, ⟨ω5, st5, vs5, ys5, rest5, x5, x15, c5, A5, r5, e7, e8⟩⟩
                    obtain ⟨go1, stop1, yld1⟩ := hJ1 ω5 H5 x5 (fun z => by cases z)
                    rcases Nat.lt_or_ge j zs.length with hlt1 | hge1
                    rotate_left
                    · have ej2 : j = zs.length := by omega
                      subst ej2
                      rw [List.drop_length] at e7
                      cases e7
                      rw [List.append_nil] at e8
                      refine .inl ⟨stop1, hlt, ⟨ω5, s5, vs5, ys5, rest', x15, c5, A5.at_, A5.nS, A5.nC, r5, er, ?_⟩⟩
                      rw [← e8, e5, List.append_assoc]
                    · refine .inr ⟨go1 j hlt1, fun H' => j + 1 ≤ zs.length ∧ Lc3 K ω1 H1 ω4 H4 D (turnF Φ elt tg2 ifs own2 ρ1) zs (ys ++ more) s5 (j + 1) H', fun H' hN => ⟨zs.length - (j + 1), by omega, rfl, hN.1, hN.2⟩, fun y H6 hy1 => ?_⟩
                      obtain ⟨ω6, u, w6, ex6, ry⟩ := yld1 j y H6 hlt1 hy1
                      have A6 : Apt D vs5 ω6 H6 := A5.grow w6
                      have x46 : Ext ω4 H4 ω6 H6 := x5.trans w6.ext
                      have x16 : ExtE ω1 H1 ω6 H6 := x15.trans w6.toE
                      have rel6 : Rel K g ω6 ρ1 st5 (tgS (L2.wipe σ own) tg x ws) H6 := tg_rel ((((rel.extE x1 c1).extE x15 c5).grow w6).wipe own) (tgo.mono ((x4.ext relT.cells).trans x46)) hn ea
                      have r6 := r5.mono w6.ext
                      rw [drop_cons ex6] at e7
                      unfold compL at e7
                      cases eb : assignT tg2 u (wipeE ρ1 own2) with
                      | none => unfold turnF at e7; rw [eb] at e7; cases e7
                      | some ρ2 =>
                        have ef2 : turnF Φ elt tg2 ifs own2 ρ1 u st5 = (evt Φ ifs ρ2 st5).bind fun b st => if b then (ev Φ elt ρ2 st).bind fun y st => .ok (some y) st else .ok none st := by unfold turnF; rw [eb]
                        rw [ef2] at e7
                        refine gAsg_ok (rel6.wipe own2) ry eb fun ws2 relU => ⟨wipe_tgS hsub2, ?_⟩
                        refine ⟨g, ω6, ρ2, st5, relU, ?_⟩
                        cases et : evt Φ ifs ρ2 st5 with
                        | bad => rw [et] at e7; cases e7
                        | exc x7 s7 => rw [et] at e7; cases e7
                        | ok bv s7 =>
                          rw [et] at e7
                          simp only [R.bind_ok] at e7
                          intro b7 H7 ω7 x7 c7 pb
                          cases (show bv = b7 from pb)
                          have A7 := A6.extE x7
                          have r7 := r6.mono (x7.ext relU.cells)
                          have x47 : Ext ω4 H4 ω7 H7 := x46.trans (x7.ext relU.cells)
                          have x17 : ExtE ω1 H1 ω7 H7 := x16.trans x7
                          cases bv with
                          | false =>
                            rw [if_neg Bool.false_ne_true]
                            simp only [Bool.false_eq_true, if_false] at e7
                            cases e9 : compL (turnF Φ elt tg2 ifs own2 ρ1) (zs.drop (j + 1)) s7 with
                            | bad => rw [e9] at e7; cases e7
                            | exc x9 s9 => exact absurd e9 (compL_noexc _ _)
                            | ok restj s9 =>
                              rw [e9] at e7
                              cases e7
                              exact ⟨hlt1, ⟨ω7, s7, vs5, ys5, rest5, x47, x17, c7, A7, r7, e9, e8⟩⟩
                          | true =>
                            rw [if_pos rfl]
                            simp only [if_true] at e7
                            refine ⟨g, ω7, ρ2, s7, relU.extE x7 c7, ?_⟩
                            cases ev8 : ev Φ elt ρ2 s7 with
                            | bad => rw [ev8] at e7; cases e7
                            | exc x9 s9 => rw [ev8] at e7; cases e7
                            | ok yv s8 =>
                              rw [ev8] at e7
                              simp only [R.bind_ok] at e7
                              intro z H8 ω8 x8 c8 py
                              have A8 := A7.extE x8
                              have r8 := r7.mono (x8.ext c7)
                              cases e9 : compL (turnF Φ elt tg2 ifs own2 ρ1) (zs.drop (j + 1)) s8 with
                              | bad => rw [e9] at e7; cases e7
                              | exc x9 s9 => exact absurd e9 (compL_noexc _ _)
                              | ok restj s9 =>
                                rw [e9] at e7
                                cases e7
                                have up := extUpd (ω := ω8) (o := .lst (vs5 ++ [z])) A8.at_ A8.nS
                                refine ⟨vs5, A8.at_, ?_, hlt1, ⟨ω8, s8, vs5 ++ [z], ys5 ++ [yv], restj, (x47.trans (x8.ext c7)).trans up, (x17.trans x8).updNew hD, c8.upd A8.at_ A8.nS A8.nC, ⟨upd_same, A8.nS, A8.nC⟩, (r8.mono up).append (.cons (py.rep.mono up) .nil), e9, by rw [e8]; simp⟩⟩
                                rw [r8.length]
                                have l1 := congrArg List.length e8
                                have l2 := congrArg List.length e5
                                simp at l1 l2
                                omega
theorem sF_comp2 {Φ : Nat → List PV → Cel → R PV} {elt : C} {tg tg2 own own2 : List Nat} {it it2 : C} {ifs : Cs} (hpe : PE X e (tLc2 (ti X.K true W (ev Φ it)) (gAsg X.K tg) tYes (ti X.K false W0 (ev Φ it2)) (gAsg X.K tg2) (tvbb X.K W0 (evt Φ ifs)) (tv X.K false W0 (ev Φ elt)) own own2)) (hn : nested tg = false) (hsub : ownOk tg own = true) (hsub2 : ownOk tg2 own2 = true) :
    PE X e (tvF X.K W (ev Φ (.comp2 elt tg it tg2 it2 ifs own own2))) := wPE hpe (comp2_w hn hsub hsub2)
end
end Ev
namespace Ev
open PySem L2
section
variable {X : Cx} {W : Wx} {e a b c : Expr} {K : PySem.W.Frag} {g : Gh} {ω ω' : Wd} {ρ : En} {st st' : Cel} {σ : St} {H H' : Hp}
/-! ### a < b < c -/
theorem w_chain {fa fb fc : En → Cel → R PV} {o1 o2 : COp} {bz : Bool} : ∀ σ H Q, tv K bz W (fun ρ st => (fa ρ st).bind fun x st => (fb ρ st).bind fun y st => match cmpV o1 x y with
    | some true => (fc ρ st).bind fun z st => R.of ((cmpV o2 y z).map .bl) st
    | some false => .ok (.bl false) st
    | none => .bad) σ H Q → tChain (rCmp K o1) (rCmp K o2) (tv K true W fa) (tv K true W fb) (tv K true W fc) σ H Q := by
  intro σ H Q ⟨g, ω, ρ, st, rel, h⟩
  refine (bindG (P := RepM K true) rel h).mono fun x H1 ⟨ω1, st1, t, x1, rel1, p, q⟩ => ?_
  refine (bindG (P := RepM K true) (f := fb) rel1 q).mono fun y H2 ⟨ω2, st2, u, x2, rel2, p2, q2⟩ => ?_
  have pp := p.extE x2 rel1.cells
  cases e : cmpV o1 t u with
  | none => rw [e] at q2; exact q2.elim
  | some k =>
    rw [e] at q2
    refine vr_cmp (b := true) (b' := true) o1 st2 x y t u (.bl k) ω2 H2 _ rel2.cells pp p2 (by show (cmpV o1 t u).map PV.bl = _; rw [e]; rfl) fun z H3 ω3 gr rz => ?_
    cases rz
    refine ⟨k, rfl, ?_⟩
    have rel3 := rel2.grow gr
    cases k with
    | false => rw [if_neg Bool.false_ne_true]; exact q2 _ H3 ω3 gr.toE rel3.cells (.inl (.bl _))
    | true =>
      rw [if_pos rfl]
      have q3 : postG (RepM K bz) K g ω3 ρ σ H3 W ((fc ρ st2).bind fun z st => R.of ((cmpV o2 u z).map .bl) st) Q := postG.ext q2 gr.toE
      refine (bindG (P := RepM K true) (f := fc) rel3 q3).mono fun z H4 ⟨ω4, st4, v, x4, rel4, p4, q4⟩ => ?_
      have pu := (p2.extE gr.toE rel2.cells).extE x4 rel3.cells
      cases e2 : cmpV o2 u v with
      | none => rw [e2] at q4; exact q4.elim
      | some k2 =>
        rw [e2] at q4
        exact vr_cmp (b := true) (b' := true) o2 st4 y z u v (.bl k2) ω4 H4 _ rel4.cells pu p4 (by show (cmpV o2 u v).map PV.bl = _; rw [e2]; rfl) fun z' H5 ω5 gr5 rz => q4 _ H5 ω5 gr5.toE (rel4.cells.grow gr5) (.inl rz)
/-! ### sep.join(l) -/
abbrev rJoin (K : PySem.W.Frag) : V → List V → Hp → VK → Prop := fun x xs H Q => ∃ a p, ∃ ys : List Str, x = .str a ∧ xs = [.ref p] ∧ (SqL K H p (ys.map V.str) ∨ SqT K H p (ys.map V.str)) ∧ (ys.map (·.length)).sum + ys.length * a.length ≤ 16777216 ∧ Q (.str (Txt.join a ys)) H
theorem strsP_v : ∀ {ts : List PV} {vs : List V} {ys : List Str}, RepL K ω H vs ts → strsP ts = some ys → vs = ys.map V.str
  | [], _, _, .nil, h => by cases h; rfl
  | t :: ts, _, ys, .cons hx r, h => by
    cases t with
    | str s =>
      change (strsP ts).map (s :: ·) = some ys at h
      cases q : strsP ts with
      | none => rw [q] at h; cases h
      | some m =>
        rw [q] at h
        cases h
        cases hx
        rw [strsP_v r q]
        rfl
    | _ => cases h
theorem se_join {f f' : En → Cel → R PV} {bz : Bool} (hpe : ∀ ta tb, PE X a ta → PE X b tb → PE X e (tM1 (rJoin X.K) ta tb)) (ha : PE X a (tv X.K true W f)) (hb : PE X b (tv X.K true W f')) :
    PE X e (tv X.K bz W fun ρ st => (f ρ st).bind fun x st => match x with
      | .str s => (f' ρ st).bind fun y st => R.of (joinV (.str s) y) st
      | _ => .bad) := by
  refine wPE (hpe _ _ ha hb) fun σ H Q ⟨g, ω, ρ, st, rel, h⟩ => ?_
  refine (bindG (P := RepM X.K true) rel h).mono fun x H1 ⟨ω1, st1, t, x1, rel1, p, q⟩ => ?_
  cases t with
  | str s =>
    refine ⟨⟨s, p.str⟩, ?_⟩
    refine (bindG (P := RepM X.K true) (f := f') rel1 q).mono fun y H2 ⟨ω2, st2, u, x2, rel2, p2, q2⟩ => ?_
    have px := p.str
    have key : ∀ xs : List PV, (match strsP xs with
        | some ys => if (ys.map (·.length)).sum + ys.length * s.length ≤ 16777216 then some (PV.str (Txt.join s ys)) else none
        | none => none) = joinV (.str s) u → ∀ p vs, y = .ref p → RepL X.K ω2 H2 vs xs → (SqL X.K H2 p vs ∨ SqT X.K H2 p vs) → rJoin X.K x [y] H2 Q := fun xs hj p vs hy r hs => by
      rw [← hj] at q2
      cases e1 : strsP xs with
      | none => rw [e1] at q2; exact q2.elim
      | some ys =>
        rw [e1] at q2
        dsimp only at q2
        split at q2
        · rename_i hz
          obtain rfl := strsP_v r e1
          exact ⟨s, p, ys, px, by rw [hy], hs, hz, q2 _ H2 ω2 (ExtE.refl _ _) rel2.cells (.inl (.str _))⟩
        · exact q2.elim
    cases u with
    | lst xs =>
      obtain ⟨a', vs, rfl, ha', ra⟩ := p2.lst
      exact key xs rfl a' vs rfl ra (.inl (.inl (.inl ha')))
    | tup xs =>
      obtain ⟨a', vs, rfl, ha', ra⟩ := p2.tup
      exact key xs rfl a' vs rfl ra (.inr ha')
    | _ => exact q2.elim
  | _ => exact q.elim
/-! ### f-strings -/
def RStr : RX Str Str := fun _ _ x t => x = t
structure SJ (X : Cx) (W : Wx) (es : List Expr) (f : Str → En → Cel → R Str) : Prop where
  ex : ∃ ts, PJ X es ts ∧ ∀ acc σ H (Q : Str → Hp → Prop), tG RStr X.K W (f acc) σ H Q → tJs ts acc σ H Q
theorem sj_nil : SJ X W [] (fun acc _ st => .ok acc st) := ⟨[], .nil, fun acc σ H Q ⟨g, ω, ρ, st, rel, q⟩ => q acc H ω (ExtE.refl _ _) rel.cells rfl⟩
theorem fmtV_some {acc acc' : Str} {t : PV} (h : fmtV acc t = some acc') : ∃ y, str1V t = some (.str y) ∧ acc' = acc ++ y ∧ (acc ++ y).length ≤ sizeLine := by
  unfold fmtV at h
  split at h
  · rename_i y hy
    split at h
    · rename_i hz
      cases h
      exact ⟨y, hy, rfl, szOk_le hz⟩
    · cases h
  · cases h
theorem sj_str {es : List Expr} {s : Str} {fr : Str → En → Cel → R Str} (he : PE X e (tC (.str s))) (hr : SJ X W es fr) :
    SJ X W (e :: es) (fun acc ρ st => (R.ok (PV.str s) st).bind fun x st => match fmtV acc x with
      | some acc' => fr acc' ρ st
      | none => .bad) := by
  obtain ⟨ts, pj, h⟩ := hr.ex
  refine ⟨_ :: ts, .cons he pj, fun acc σ H Q ⟨g, ω, ρ, st, rel, q⟩ => ?_⟩
  cases e1 : fmtV acc (.str s) with
  | none =>
    change postG RStr X.K g ω ρ σ H W (match fmtV acc (.str s) with
      | some acc' => fr acc' ρ st
      | none => .bad) Q at q
    rw [e1] at q
    exact q.elim
  | some acc' =>
    obtain ⟨y, hy, rfl, hz⟩ := fmtV_some e1
    cases hy
    change postG RStr X.K g ω ρ σ H W (match fmtV acc (.str s) with
      | some acc' => fr acc' ρ st
      | none => .bad) Q at q
    rw [e1] at q
    exact ⟨s, rfl, hz, h _ σ H Q ⟨g, ω, ρ, st, rel, q⟩⟩
theorem len_app (a b : Str) : b.length ≤ (a ++ b).length := by
  rw [PySem.strLen_append]
  omega
theorem sj_fmt {es : List Expr} {e' : Expr} {fa : En → Cel → R PV} {fr : Str → En → Cel → R Str} (he : PE X e' (tv X.K true W fa)) (hf : ∀ te, PE X e' te → PE X e (tFmt te)) (hr : SJ X W es fr) :
    SJ X W (e :: es) (fun acc ρ st => (fa ρ st).bind fun x st => match fmtV acc x with
      | some acc' => fr acc' ρ st
      | none => .bad) := by
  obtain ⟨ts, pj, h⟩ := hr.ex
  refine ⟨_ :: ts, .cons (hf _ he) pj, fun acc σ H Q ⟨g, ω, ρ, st, rel, q⟩ => ?_⟩
  refine (bindG (P := RepM X.K true) (f := fa) rel q).mono fun x H1 ⟨ω1, st1, t, x1, rel1, p, q1⟩ => ?_
  cases e1 : fmtV acc t with
  | none => rw [e1] at q1; exact q1.elim
  | some acc' =>
    rw [e1] at q1
    obtain ⟨y, hy, rfl, hz⟩ := fmtV_some e1
    have fin := h _ σ H1 Q ⟨g, ω1, ρ, st1, rel1, q1⟩
    cases t with
    | int i =>
      change (if i.natAbs.log2 < 1920 then some (PV.str (toString i)) else none) = some (.str y) at hy
      split at hy
      · rename_i hl
        cases hy
        exact .inr ⟨i, p.int, hl, _, rfl, hz, fin⟩
      · cases hy
    | str z =>
      cases hy
      exact .inl ⟨_, p.str, Nat.le_trans (len_app acc _) hz, _, rfl, hz, fin⟩
    | _ => cases hy
theorem se_fstr {es : List Expr} {f : Str → En → Cel → R Str} {bz : Bool} (hpe : ∀ ts, PJ X es ts → PE X e (fun σ H Q => tJs ts Str.empty σ H fun out H1 => Q (.str out) H1)) (hj : SJ X W es f) :
    PE X e (tv X.K bz W fun ρ st => (f Str.empty ρ st).bind fun s st => .ok (.str s) st) := by
  obtain ⟨ts, pj, h⟩ := hj.ex
  refine wPE (hpe ts pj) fun σ H Q ⟨g, ω, ρ, st, rel, q⟩ => h _ σ H _ ?_
  refine (bindG (P := RStr) (f := f Str.empty) rel q).mono fun x H1 ⟨ω1, st1, t, x1, rel1, p, q1⟩ => ?_
  cases (show x = t from p)
  exact q1 _ H1 ω1 (ExtE.refl _ _) rel1.cells (.inl (.str _))
/-- one part alone -/
theorem tv_fmt {fa : En → Cel → R PV} {bz : Bool} : ∀ σ H Q, tv K bz W (fun ρ st => (fa ρ st).bind fun x st => match fmtV Str.empty x with
    | some acc' => R.ok (PV.str acc') st
    | none => .bad) σ H Q → tFmt (tv K true W fa) σ H Q := by
  intro σ H Q ⟨g, ω, ρ, st, rel, q⟩
  refine (bindG (P := RepM K true) (f := fa) rel q).mono fun x H1 ⟨ω1, st1, t, x1, rel1, p, q1⟩ => ?_
  cases e1 : fmtV Str.empty t with
  | none => rw [e1] at q1; exact q1.elim
  | some acc' =>
    rw [e1] at q1
    obtain ⟨y, hy, rfl, hz⟩ := fmtV_some e1
    have ey : Str.empty ++ y = y := PySem.Str.empty_append y
    rw [ey] at q1 hz
    have fin : Q (.str y) H1 := q1 _ H1 ω1 (ExtE.refl _ _) rel1.cells (.inl (.str _))
    cases t with
    | int i =>
      change (if i.natAbs.log2 < 1920 then some (PV.str (toString i)) else none) = some (.str y) at hy
      split at hy
      · rename_i hl
        cases hy
        exact .inr ⟨i, p.int, hl, fin⟩
      · cases hy
    | str z =>
      cases hy
      exact .inl ⟨_, p.str, hz, fin⟩
    | _ => cases hy
/-! ### tuple(range(a, b)) -/
theorem rg_rep {i j : Int} : RepL K ω H (rgV i j) (rngP i j) := by
  unfold rgV rngP
  induction (List.range (j - i).toNat) with
  | nil => exact .nil
  | cons k r ih => exact .cons (.int _) ih
theorem se_tupRng {f f' : En → Cel → R PV} {bz : Bool} (hpe : ∀ ta tb, PE X a ta → PE X b tb → PE X e (tTupRg (tRg2 ta tb))) (ha : PE X a (tv X.K true W f)) (hb : PE X b (tv X.K true W f')) :
    PE X e (tv X.K bz W fun ρ st => (f ρ st).bind fun x st => (f' ρ st).bind fun y st => R.of (tupRngV x y) st) := by
  refine wPE (hpe _ _ ha hb) fun σ H Q ⟨g, ω, ρ, st, rel, h⟩ => ?_
  refine (bindG (P := RepM X.K true) rel h).mono fun x H1 ⟨ω1, st1, t, x1, rel1, p, q⟩ => ?_
  refine (bindG (P := RepM X.K true) (f := f') rel1 q).mono fun y H2 ⟨ω2, st2, u, x2, rel2, p2, q2⟩ => ?_
  obtain ⟨z, ez, qz⟩ := of_post rel2 q2
  have pp := p.extE x2 rel1.cells
  cases t with
  | int i =>
    cases u with
    | int j =>
      change (if rOk i && rOk j && szOk (j - i).toNat then some (PV.tup (rngP i j)) else none) = some z at ez
      split at ez
      · rename_i hz
        cases ez
        simp only [Bool.and_eq_true] at hz
        obtain ⟨a1, a2⟩ := rOk_le hz.1.1
        obtain ⟨b1, b2⟩ := rOk_le hz.1.2
        have hs := szOk_le hz.2
        rw [sizeLine_eq] at hs
        exact ⟨i, j, pp.int, p2.int, ⟨a1, a2, b1, b2, by omega⟩, newTup rg_rep qz⟩
      · cases ez
    | _ => cases ez
  | _ => cases ez
end
end Ev
namespace Ev
open PySem L2 PySem.Spec PyProof.Rows
section
variable {prog : Program} {w : World} {A : Around} {E : Value → Shared → Prop} {s : Shared}
theorem adjust_rev (n : Nat) : Builtin.Slice.sliceAdjust none none (-1) (n : Int) = ((n : Int) - 1, -1) := by
  unfold Builtin.Slice.sliceAdjust
  simp
theorem places_rev (n : Nat) : Builtin.Slice.slicePlaces ((n : Int) - 1) (-1) (-1) = n := by
  unfold Builtin.Slice.slicePlaces
  simp only [show ¬ ((-1 : Int) > 0) by omega, if_false]
  split
  · simp
  · simp; omega
theorem sliceApplied_rev {sl : Addr} {vl vu vs : Value} {n : Nat} {Q : Int × Int × Nat → Shared → Prop} (hs : s.heap.IsSliceOf sl vl vu vs) (pl : IsPart vl none) (pu : IsPart vu none) (ps : IsPart vs (some (-1)))
    (h : Q ((n : Int) - 1, -1, n) s) : wpAny (model prog w) A (Builtin.Slice.sliceApplied (.ref sl) (pure (n : Int))) Q E s := by
  obtain ⟨os, hos, hcs, hds⟩ := id hs
  unfold Builtin.Slice.sliceApplied Builtin.Slice.sliceFields
  refine wpAny_bind (wpAny_bind (wpAny_field hos hds (x := vl) rfl (wpAny_bind (wpAny_field hos hds (x := vu) rfl (wpAny_bind (wpAny_field hos hds (x := vs) rfl (wpAny_pure ?_)))))))
  refine wpAny_bind (HT.slicePart_ ps ?_)
  show wpAny _ _ (if ((-1 : Int) == 0) = true then _ else _) _ _ s
  rw [if_neg (by decide)]
  refine wpAny_bind (HT.slicePart_ pl (wpAny_bind (HT.slicePart_ pu (wpAny_bind (wpAny_pure ?_)))))
  show wpAny _ _ (match Builtin.Slice.sliceAdjust none none (-1) (n : Int) with | (lo, hi) => pure (lo, (-1 : Int), Builtin.Slice.slicePlaces lo hi (-1))) _ _ s
  rw [adjust_rev n]
  show wpAny _ _ (pure ((n : Int) - 1, (-1 : Int), Builtin.Slice.slicePlaces ((n : Int) - 1) (-1) (-1))) _ _ s
  rw [places_rev]
  exact wpAny_pure h
theorem pick_rev (xs : Array Value) : ((List.range xs.size).filterMap fun (m : Nat) => xs[(((xs.size : Nat) : Int) - 1 + (m : Int) * (-1)).toNat]?).toArray = xs.toList.reverse.toArray := by
  congr 1
  apply List.ext_getElem?
  intro i
  have e : (List.range xs.size).filterMap (fun (m : Nat) => xs[(((xs.size : Nat) : Int) - 1 + (m : Int) * (-1)).toNat]?) = (List.range xs.size).map (fun m => xs.getD (xs.size - 1 - m) .none) := by
    have key : ∀ (l : List Nat), (∀ m ∈ l, m < xs.size) → l.filterMap (fun (m : Nat) => xs[(((xs.size : Nat) : Int) - 1 + (m : Int) * (-1)).toNat]?) = l.map (fun m => xs.getD (xs.size - 1 - m) .none) := by
      intro l
      induction l with
      | nil => intro _; rfl
      | cons m r ih =>
        intro h
        have hm := h m List.mem_cons_self
        have e1 : (((xs.size : Nat) : Int) - 1 + (m : Int) * (-1)).toNat = xs.size - 1 - m := by omega
        have hlt : xs.size - 1 - m < xs.size := by omega
        rw [List.filterMap_cons, List.map_cons, ih (fun k hk => h k (List.mem_cons_of_mem _ hk)), e1]
        simp [hlt]
    exact key _ fun m hm => List.mem_range.mp hm
  rw [e]
  by_cases hi : i < xs.size
  · rw [List.getElem?_map, List.getElem?_range hi, List.getElem?_reverse (by simpa using hi)]
    have hlt : xs.size - 1 - i < xs.size := by omega
    simp [hlt]
  · rw [List.getElem?_eq_none (by simp; omega), List.getElem?_eq_none (by simp; omega)]
theorem getItem_tuple_rev {t sl : Addr} {items : Array Value} {vl vu vs : Value} {Q : Value → Shared → Prop} (ht : IsTup s.heap t items) (hs : s.heap.IsSliceOf sl vl vu vs) (pl : IsPart vl none) (pu : IsPart vu none) (ps : IsPart vs (some (-1)))
    (h : Q (.ref s.heap.objs.size) { s with heap := s.heap.push { cls := .type "tuple", data := .seq items.toList.reverse.toArray } })
    (hsz : items.size ≤ sizeLine) : wpAny (model prog w) A (getItem (.ref t) (.ref sl)) Q E s := by
  have htake : sizeOk (.seq items.toList.reverse.toArray) := by
    show items.toList.reverse.toArray.size ≤ sizeLine
    simpa using hsz
  obtain ⟨os, hos, hcs, hds⟩ := id hs
  have hTs : s.TypeIs (.ref sl) "slice" := ⟨os, hos, hcs⟩
  unfold getItem
  try with_reducible refine wpAny_holding ?_
  first | refine wpAny_bind (wpAny_pure ?_) | skip
  refine wpAny_bind (wpAny_sequenceKey ht.typeIs (by decide) ?_)
  refine wpAny_bind (wpAny_callSpecial?_slot (name := Str.ofString "__getitem__") ht.typeIs PyProof.Rows.slot_tuple_getitem
    (wpAny_call_entry PyProof.Rows.slot_tuple_getitem ht.typeIs entry_tuple_getitem ?_ (args_tuple_getitem _ _)))
  show wpAny _ _ (Builtin.Tuple.tupleItemsOf (.ref t) >>= _) _ _ s
  refine wpAny_bind (tupleItemsOf_ ht ?_)
  refine wpAny_bind (wpAny_typeOf hTs ?_)
  rw [if_pos (by decide)]
  refine wpAny_bind (sliceApplied_rev hs pl pu ps ?_)
  show wpAny _ _ (if ((((items.size : Nat) : Int) - 1 == 0 && (-1 : Int) == 1 && items.size == items.size) = true) then _ else _) _ _ s
  rw [if_neg (by simp), pick_rev]
  first
    | exact wpAny_bind (m := Builtin.Tuple.tupleExact _) (wpAny_newObj_type (wpAny_pure ⟨_, rfl, wpAny_pure h⟩) htake)
    | exact wpAny_bind (m := Builtin.Tuple.tupleExact _) (wpAny_newObj_type (wpAny_bind (wpAny_pure (wpAny_pure ⟨_, rfl, wpAny_pure h⟩))) htake)
    | exact wpAny_bind (wpAny_bind (m := Builtin.Tuple.tupleExact _) (wpAny_newObj_type (wpAny_pure (wpAny_pure ⟨_, rfl, wpAny_pure h⟩)) htake))
    | exact wpAny_bind (wpAny_bind (m := Builtin.Tuple.tupleExact _) (wpAny_newObj_type (wpAny_pure ⟨_, rfl, wpAny_pure h⟩) htake))
end
section
variable {X : Cx}
abbrev rRevT (K : PySem.W.Frag) : V → Hp → VK → Prop := fun x H1 Q => ∃ a xs, x = .ref a ∧ SqT K H1 a xs ∧ ∀ p, H1 p = none → Q (.ref p) (upd H1 p (.tup xs.reverse))
theorem pe_revT {e : Expr} {te : TE} {k : Nat} {p1 p2 p3 pos : Pos} (he : PE X e te) : PE X (.Subscript e (.Slice none none (some (.UnaryOp .USub (.Constant (.int 1) k p1) p2)) p3) pos) (tUn (rRevT X.K) te) := by
  refine ⟨fun pins s σ H Q I h => ?_⟩
  refine Subscript_ (thn (he.run pins s σ H _ I h) fun v s1 ⟨x, H1, I1, r1, q1⟩ => ?_)
  obtain ⟨a, xs, ex, hx, q⟩ := q1
  subst ex
  cases r1
  have hst : PO X (some (.UnaryOp .USub (.Constant (.int 1) k p1) p2)) (tPart (tUn (rU fun i => .int (-i)) (tC (.int 1)))) := po_some (pe_un un_neg pe_int)
  refine wpAny_Slice (thn (po_none.run pins s1 σ H1 (fun o H2 => o = none ∧ H2 = H1) I1 ⟨rfl, rfl⟩) fun vl s2 ⟨l, H2, I2, pl, el, e2⟩ => ?_)
  subst el e2
  refine thn (po_none.run pins s2 σ H2 (fun o H3 => o = none ∧ H3 = H2) I2 ⟨rfl, rfl⟩) fun vu s3 ⟨u, H3, I3, pu, eu, e3⟩ => ?_
  subst eu e3
  refine thn (hst.run pins s3 σ H3 (fun o H4 => o = some (-1) ∧ H4 = H3) I3 ⟨1, rfl, -1, rfl, rfl, rfl⟩) fun vs s4 ⟨o, H4, I4, ps, eo, e4⟩ => ?_
  subst eo e4
  have I5 : Inv X pins σ H4 { s4 with heap := s4.heap.push { cls := .type "slice", data := .fields #[vl, vu, vs] } } := I4.kept (t' := s4.toks) fun b ob q => Heap.get?_push_of_some _ q
  obtain ⟨its, r, ht, hz⟩ := I5.tuple hx
  have hlen := r.length
  show wpAny (model X.prog X.w) X.A (subscriptTail e (.Slice none none (some (.UnaryOp .USub (.Constant (.int 1) k p1) p2)) p3) (.ref a) (.ref s4.heap.objs.size)) (EP X pins σ Q) X.xe { s4 with heap := s4.heap.push { cls := .type "slice", data := .fields #[vl, vu, vs] } }
  refine tail_any (ops := [.ref a, .ref s4.heap.objs.size]) ht.typeIs (PyProof.Rows.slot_tuple_getitem.lookup) ?_ (by with_unfolding_all rfl)
  refine getItem_tuple_rev ht (Heap.IsSliceOf.new _ vl vu vs) pl pu ps ?_ (by rw [List.size_toArray]; omega)
  refine ⟨.ref _, _, I5.laid (t' := s4.toks) (o := .tup xs.reverse) (fun b ob q => Heap.get?_push_of_some _ q) (Nat.le_refl _) ?_, rfl, q _ (I5.hok.fresh (Nat.le_refl _))⟩
  exact ⟨by rw [List.length_reverse]; exact hz, _, r.reverse, IsTup.new _ _⟩
theorem vr_revT {K : PySem.W.Frag} {b : Bool} : VR1 K b (rRevT K) (fun _ => revTV) := by
  intro st x t z ω H Q c hx hv q
  dsimp only at hv
  cases t with
  | tup ts =>
    cases hv
    obtain ⟨a, vs, rfl, ha, ra⟩ := hx.tup
    exact ⟨a, vs, rfl, ha, newTup ra.reverse q⟩
  | _ => cases hv
variable {W : Wx} {a b e : Expr}
theorem sF_cat {f f' : En → Cel → R PV} (hpe : ∀ ta tb, PE X a ta → PE X b tb → PE X e (tOp rCat ta tb)) (ha : PE X a (tv X.K true W f)) (hb : PE X b (tv X.K true W f')) :
    PE X e (tvF X.K W fun ρ st => (f ρ st).bind fun x st => (f' ρ st).bind fun y st => R.of (catV x y) st) := by
  refine wPE (hpe _ _ ha hb) fun σ H Q ⟨g, ω, ρ, st, rel, h⟩ => (bindF (P := RepM X.K true) rel h).mono fun x H1 ⟨ω1, st1, t, x1, rel1, p, q⟩ => ?_
  refine (bindF (P := RepM X.K true) (f := f') rel1 q).mono fun y H2 ⟨ω2, st2, u, x2, rel2, p2, q2⟩ => ?_
  have pp := p.extE x2 rel1.cells
  cases e : catV t u with
  | none => rw [e] at q2; exact q2.elim
  | some z =>
    rw [e] at q2
    unfold catV at e
    split at e
    · rename_i xs ys
      split at e
      · rename_i hz
        cases e
        obtain ⟨a, vs, rfl, ha, ra⟩ := pp.lst
        obtain ⟨a', vs', rfl, ha', ra'⟩ := p2.lst
        exact ⟨a, a', vs, vs', rfl, rfl, ha, ha', by rw [ra.length, ra'.length]; exact szOk_le hz, freshNew rel2 q2 (ra.append ra')⟩
      · cases e
    · cases e
theorem valP_none {K : PySem.W.Frag} {ω : Wd} {H : Hp} : ∀ {kvs : List (Key × V)} {ts : List PV} {k : Key}, RepL K ω H (kvs.map (·.2)) ts → valP (kvs.map (·.1)) ts k = none → valV kvs k = none
  | [], _, _, .nil, _ => rfl
  | q :: r, _, k, .cons h1 h2, h => by
    rw [List.map_cons, valP] at h
    split at h
    · cases h
    · rename_i hz
      have := valP_none h2 h
      obtain ⟨k0, v0⟩ := q
      rw [valV_neg hz]
      exact this
theorem se_dgetD {f f' : En → Cel → R PV} {bz : Bool} (hpe : ∀ ta tb, PE X a ta → PE X b tb → PE X e (tDGet1 ta tb)) (ha : PE X a (tv X.K true W f)) (hb : PE X b (tv X.K true W f')) :
    PE X e (tv X.K bz W fun ρ st => (f ρ st).bind fun x st => match x with
      | .dct ks ts => (f' ρ st).bind fun y st => R.of (dgetN (.dct ks ts) y) st
      | _ => .bad) := by
  refine wPE (hpe _ _ ha hb) fun σ H Q ⟨g, ω, ρ, st, rel, h⟩ => (bindG (P := RepM X.K true) rel h).mono fun x H1 ⟨ω1, st1, t, x1, rel1, p, q⟩ => ?_
  cases t with
  | dct ks ts =>
    obtain ⟨d, o, kvs, rfl, hd, rfl, rv⟩ := p.dct
    refine ⟨d, rfl, .inl ⟨kvs, .inr ⟨o, hd⟩⟩, ?_⟩
    refine (bindG (P := RepM X.K true) (f := f') rel1 q).mono fun y H2 ⟨ω2, st2, u, x2, rel2, p2, q2⟩ => ?_
    obtain ⟨z, ez, qz⟩ := of_post rel2 q2
    have pp := p.extE x2 rel1.cells
    obtain ⟨d', o', kvs', e0, hd', ek', rv'⟩ := pp.dct
    cases e0
    have key : ∀ k : Key, keyP u = some k → z = (valP (kvs.map Prod.fst) ts k).getD .non → ∃ o, DGet H2 d y o ∧ Q (o.getD .non) H2 := by
      intro k ek hz
      refine ⟨valV kvs' k, .inl ⟨kvs', k, .inr ⟨o', hd'⟩, keyP_v p2 ek, rfl⟩, ?_⟩
      rw [ek'] at hz
      cases hv : valP (kvs'.map (·.1)) ts k with
      | none =>
        rw [hv] at hz
        cases hz
        rw [valP_none rv' hv]
        exact qz _ _ ω2 (Grow.refl _ _) .non
      | some w =>
        rw [hv] at hz
        cases hz
        obtain ⟨v, e1, e2⟩ := valP_get rv' hv
        rw [e1]
        exact qz _ _ ω2 (Grow.refl _ _) e2
    cases ek : keyP u with
    | none =>
      have : dgetN (.dct (kvs.map Prod.fst) ts) u = none := by show (match keyP u with | some k' => some ((valP (kvs.map Prod.fst) ts k').getD .non) | none => none) = none; rw [ek]
      rw [this] at ez
      cases ez
    | some k =>
      have : dgetN (.dct (kvs.map Prod.fst) ts) u = some ((valP (kvs.map Prod.fst) ts k).getD .non) := by show (match keyP u with | some k' => some ((valP (kvs.map Prod.fst) ts k').getD .non) | none => none) = _; rw [ek]
      rw [this] at ez
      exact key k ek (Option.some.inj ez).symm
  | _ => exact q.elim
end
end Ev
set_option maxHeartbeats 1000000
/-! zip(a, b, strict=True) of two tuples of one length -/
namespace Zs
open PySem
abbrev IsZs (hp : Heap) (zz ta tb : Addr) (own : Value) : Prop := hp.get? zz = some { cls := .type "zip", dict := none, data := .fields #[own, .bool false, .bool true, .ref ta, .ref tb], slots := #[] }
section
variable {prog : Program} {w : World} {A : Around} {E : Value → Shared → Prop} {s : Shared}
theorem noe_item {it l : Addr} {n : Nat} {vals : Array Value} {v : Value} {K : Option Value → Shared → Prop} (hi : s.heap.IsTupleIter it l n) (hl : s.heap.IsTuple l vals) (hv : vals[n]? = some v)
    (k : ∀ hp, hp.IsTupleIter it l (n + 1) → Heap.SameBut it s.heap hp → K (some v) { s with heap := hp }) : wpAny (model prog w) A (Builtin.SmallTypes.nextOrEnd (.ref it)) K E s := by
  unfold Builtin.SmallTypes.nextOrEnd
  exact wpAny_bind (wpAny_attempt (RZ.nextOf_tuple_item hi hl hv fun hp a b => wpAny_pure (k hp a b)))
theorem noe_end {it l : Addr} {n : Nat} {vals : Array Value} {K : Option Value → Shared → Prop} (hh : A.handled = none) (hi : s.heap.IsTupleIter it l n) (hl : s.heap.IsTuple l vals) (hv : vals[n]? = none)
    (k : ∀ hp, Heap.ExtBut it s.heap hp → K none { s with heap := hp }) : wpAny (model prog w) A (Builtin.SmallTypes.nextOrEnd (.ref it)) K E s := by
  unfold Builtin.SmallTypes.nextOrEnd
  refine wpAny_bind (wpAny_attempt (RZ.nextOf_tuple_end hh hi hl hv fun hp e x he => ?_))
  obtain ⟨o, ho, hc⟩ := he
  refine wpAny_bind (wpAny_isInstance (T := "StopIteration") (b := true) ⟨o, ho, hc⟩ isSubtype_stop ?_)
  exact wpAny_pure (k hp x)
theorem next_item {zz ta tb i1 i2 l1 l2 : Addr} {n : Nat} {xs ys : Array Value} {x y a b : Value} {K : Value → Shared → Prop} (D : ZipApart zz ta tb i1 i2 l1 l2)
    (hz : IsZs s.heap zz ta tb .none) (hA : IsPair s.heap ta (.ref i1) (.ref i2)) (hB : IsPair s.heap tb a b)
    (h1 : s.heap.IsTupleIter i1 l1 n) (h2 : s.heap.IsTupleIter i2 l2 n) (t1 : s.heap.IsTuple l1 xs) (t2 : s.heap.IsTuple l2 ys) (hx : xs[n]? = some x) (hy : ys[n]? = some y)
    (k : ∀ hp, IsZs hp zz ta tb (rawInt s.heap.objs.size) → IsPair hp tb x y → hp.IsTupleIter i1 l1 (n + 1) → hp.IsTupleIter i2 l2 (n + 1) → IsPair hp s.heap.objs.size x y → hp.objs.size = s.heap.objs.size + 1 →
      (∀ c o, c ≠ zz → c ≠ tb → c ≠ i1 → c ≠ i2 → s.heap.get? c = some o → hp.get? c = some o) → K (.ref s.heap.objs.size) { s with heap := hp }) :
    wpAny (model prog w) A (Builtin.«zip.__next__» ⟨[.ref zz], []⟩) (fun r s' => ∃ v, r = .done (.ret v) ∧ K v s') E s := by
  show wpAny _ _ (field (.ref zz) 2 >>= _) _ _ _
  refine wpAny_bind (wpAny_field hz rfl (x := .bool true) rfl ?_)
  show wpAny _ _ (field (.ref zz) 3 >>= _) _ _ _
  refine wpAny_bind (wpAny_field hz rfl (x := .ref ta) rfl ?_)
  refine wpAny_bind (wpAny_seqItems hA rfl ?_)
  show wpAny _ _ (Builtin.SmallTypes.ownedTupleIsFree (.ref zz) >>= _) _ _ _
  refine wpAny_bind ?_
  unfold Builtin.SmallTypes.ownedTupleIsFree
  refine wpAny_bind (wpAny_field hz rfl (x := .none) rfl (wpAny_pure ?_))
  simp only [if_true]
  refine wpAny_bind (wpAny_rule ?_)
  refine wpAny_bind (wpAny_field hz rfl (x := .ref tb) rfl ?_)
  refine wpAny_bind (wpAny_setField_rec hz (by simp) fun p1 z1 s1 => ?_)
  replace z1 : IsZs p1 zz ta tb .ellipsis := z1
  refine wpAny_bind ?_
  simp only [List.zipIdx_cons, List.zipIdx_nil, List.forIn_cons, List.forIn_nil]
  refine wpAny_bind (wpAny_bind (wpAny_onRaise ?_))
  show wpAny _ _ (Builtin.SmallTypes.nextOrEnd (.ref i1)) _ _ _
  refine noe_item (h1.extBut s1.extBut D.i1z) (t1.extBut s1.extBut D.l1z) hx fun p2 a2 s2 => ?_
  have b2 : IsPair p2 tb a b := s2.extBut _ _ D.TOi1 (s1.extBut _ _ D.TOz hB)
  refine wpAny_bind (wpAny_seqItems b2 rfl ?_)
  refine wpAny_bind (wpAny_updateSeq_pair b2 fun p3 b3 s3 => ?_)
  replace b3 : IsPair p3 tb x b := b3
  refine wpAny_bind (wpAny_letGo (wpAny_pure ?_))
  refine wpAny_bind (wpAny_bind (wpAny_onRaise ?_))
  show wpAny _ _ (Builtin.SmallTypes.nextOrEnd (.ref i2)) _ _ _
  refine noe_item (((h2.extBut s1.extBut D.i2z).extBut s2.extBut D.i12.symm).extBut s3.extBut D.TOi2.symm) (((t2.extBut s1.extBut D.l2z).extBut s2.extBut D.l2i1).extBut s3.extBut D.l2TO) hy fun p4 a4 s4 => ?_
  have b4 : IsPair p4 tb x b := s4.extBut _ _ D.TOi2 b3
  refine wpAny_bind (wpAny_seqItems b4 rfl ?_)
  refine wpAny_bind (wpAny_updateSeq_pair b4 fun p5 b5 s5 => ?_)
  replace b5 : IsPair p5 tb x y := b5
  refine wpAny_bind (wpAny_letGo (wpAny_pure (wpAny_pure ?_)))
  refine wpAny_bind (wpAny_seqItems b5 rfl (wpAny_bind (wpAny_newTuple ?_)))
  have sz : p5.objs.size = s.heap.objs.size := by rw [s5.1, s4.1, s3.1, s2.1, s1.1]
  have z5 : IsZs p5 zz ta tb .ellipsis := s5.extBut _ _ D.TOz.symm (s4.extBut _ _ D.i2z.symm (s3.extBut _ _ D.TOz.symm (s2.extBut _ _ D.i1z.symm z1)))
  have k5 : ∀ c o, c ≠ zz → c ≠ tb → c ≠ i1 → c ≠ i2 → s.heap.get? c = some o → p5.get? c = some o := fun c o c1 c2 c3 c4 e => s5.extBut _ _ c2 (s4.extBut _ _ c4 (s3.extBut _ _ c2 (s2.extBut _ _ c3 (s1.extBut _ _ c1 e))))
  have i5 : p5.IsTupleIter i1 l1 (n + 1) := ((a2.extBut s3.extBut D.TOi1.symm).extBut s4.extBut D.i12).extBut s5.extBut D.TOi1.symm
  have j5 : p5.IsTupleIter i2 l2 (n + 1) := a4.extBut s5.extBut D.TOi2.symm
  have lz : zz < p5.objs.size := Heap.lt_size z5
  show wpAny _ _ (Builtin.SmallTypes.ownedTupleHandOut (.ref zz) (.ref p5.objs.size) >>= _) _ _ _
  refine wpAny_bind ?_
  unfold Builtin.SmallTypes.ownedTupleHandOut
  have z6 : IsZs (p5.push { cls := .type "tuple", data := .seq #[x, y] }) zz ta tb .ellipsis := Heap.get?_push_of_some _ z5
  refine wpAny_bind (wpAny_setField_rec z6 (by simp) fun p7 z7 s7 => ?_)
  replace z7 : IsZs p7 zz ta tb (rawInt p5.objs.size) := z7
  refine wpAny_setField_rec z7 (by simp) fun p8 z8 s8 => ?_
  replace z8 : IsZs p8 zz ta tb (rawInt p5.objs.size) := z8
  have up : ∀ c o, c ≠ zz → p5.get? c = some o → p8.get? c = some o := fun c o c1 e => s8.extBut _ _ c1 (s7.extBut _ _ c1 (Heap.get?_push_of_some _ e))
  have n8 : IsPair p8 p5.objs.size x y := s8.extBut _ _ (Nat.ne_of_gt lz) (s7.extBut _ _ (Nat.ne_of_gt lz) (Heap.get?_push_size _ rfl))
  have q8 : p8.objs.size = p5.objs.size + 1 := by rw [s8.1, s7.1, Heap.size_push]
  rw [sz] at z8 n8 q8
  refine wpAny_pure ⟨_, rfl, ?_⟩
  show K (.ref p5.objs.size) _
  rw [sz]
  exact k p8 z8 (up _ _ D.TOz b5) (i5.at fun o e => up _ o D.i1z e) (j5.at fun o e => up _ o D.i2z e) n8 q8 fun c o c1 c2 c3 c4 e => up c o c1 (k5 c o c1 c2 c3 c4 e)
theorem next_end {zz ta tb i1 i2 l1 l2 : Addr} {n : Nat} {xs ys : Array Value} {a b : Value} {K : Fin → Shared → Prop} (hh : A.handled = none) (D : ZipApart zz ta tb i1 i2 l1 l2)
    (hz : IsZs s.heap zz ta tb .none) (hA : IsPair s.heap ta (.ref i1) (.ref i2)) (hB : IsPair s.heap tb a b)
    (h1 : s.heap.IsTupleIter i1 l1 n) (h2 : s.heap.IsTupleIter i2 l2 n) (t1 : s.heap.IsTuple l1 xs) (t2 : s.heap.IsTuple l2 ys) (hx : xs[n]? = none) (hy : ys[n]? = none)
    (k : ∀ hp e, (∀ c o, c ≠ zz → c ≠ tb → c ≠ i1 → c ≠ i2 → s.heap.get? c = some o → hp.get? c = some o) → (∃ o, hp.get? e = some o ∧ o.cls = .type "StopIteration") → E (.ref e) { s with heap := hp }) :
    wpAny (model prog w) A (Builtin.«zip.__next__» ⟨[.ref zz], []⟩) K E s := by
  show wpAny _ _ (field (.ref zz) 2 >>= _) _ _ _
  refine wpAny_bind (wpAny_field hz rfl (x := .bool true) rfl ?_)
  show wpAny _ _ (field (.ref zz) 3 >>= _) _ _ _
  refine wpAny_bind (wpAny_field hz rfl (x := .ref ta) rfl ?_)
  refine wpAny_bind (wpAny_seqItems hA rfl ?_)
  show wpAny _ _ (Builtin.SmallTypes.ownedTupleIsFree (.ref zz) >>= _) _ _ _
  refine wpAny_bind ?_
  unfold Builtin.SmallTypes.ownedTupleIsFree
  refine wpAny_bind (wpAny_field hz rfl (x := .none) rfl (wpAny_pure ?_))
  simp only [if_true]
  refine wpAny_bind (wpAny_rule ?_)
  refine wpAny_bind (wpAny_field hz rfl (x := .ref tb) rfl ?_)
  refine wpAny_bind (wpAny_setField_rec hz (by simp) fun p1 z1 s1 => ?_)
  replace z1 : IsZs p1 zz ta tb .ellipsis := z1
  refine wpAny_bind ?_
  simp only [List.zipIdx_cons, List.zipIdx_nil, List.forIn_cons, List.forIn_nil]
  refine wpAny_bind (wpAny_bind (wpAny_onRaise ?_))
  show wpAny _ _ (Builtin.SmallTypes.nextOrEnd (.ref i1)) _ _ _
  refine noe_end hh (h1.extBut s1.extBut D.i1z) (t1.extBut s1.extBut D.l1z) hx fun p2 s2 => ?_
  have z2 : IsZs p2 zz ta tb .ellipsis := s2 _ _ D.i1z.symm z1
  refine wpAny_bind (wpAny_setField_rec z2 (by simp) fun p3 z3 s3 => ?_)
  refine wpAny_bind ?_
  with_unfolding_all show wpAny _ _ (forIn [((Value.ref i2 : Value), (1 : Nat))] PUnit.unit _ >>= _) _ _ _
  simp only [List.forIn_cons, List.forIn_nil]
  refine wpAny_bind (wpAny_bind (wpAny_bind ?_))
  have i3 : p3.IsTupleIter i2 l2 n := ((h2.extBut s1.extBut D.i2z).extBut s2 D.i12.symm).extBut s3.extBut D.i2z
  have t3 : p3.IsTuple l2 ys := ((t2.extBut s1.extBut D.l2z).extBut s2 D.l2i1).extBut s3.extBut D.l2z
  refine noe_end (s := { s with heap := p3 }) hh i3 t3 hy fun p4 s4 => ?_
  simp only [Option.isSome_none, Bool.false_eq_true, if_false]
  refine wpAny_pure (wpAny_pure (wpAny_bind (wpAny_rule ?_)))
  unfold Builtin.SmallTypes.stopIteration
  refine wpAny_bind ?_
  unfold newExc newTuple
  refine wpAny_bind (wpAny_newObj_type (wpAny_bind (m := firstArgMember _ _) (wpAny_of_eq (a := Value.none) (by first | rfl | (simp only [firstArgMember]; rfl)) (wpAny_newObj_type ?_ (by size_fits)))) (by size_fits))
  unfold raiseNew
  refine wpAny_bind (wpAny_handled ?_)
  rw [hh]
  refine wpAny_bind (wpAny_pure (wpAny_throw (k _ _ (fun c o c1 c2 c3 c4 e => ?_) ⟨_, Heap.get?_push_size _ rfl, rfl⟩)))
  exact Heap.get?_push_of_some _ (Heap.get?_push_of_some _ (s4 _ _ c4 (s3.extBut _ _ c1 (s2 _ _ c3 (s1.extBut _ _ c1 e)))))
theorem pn_item {zz ta tb i1 i2 l1 l2 : Addr} {n : Nat} {xs ys : Array Value} {x y a b : Value} {K : Option Value → Shared → Prop} (D : ZipApart zz ta tb i1 i2 l1 l2)
    (hz : IsZs s.heap zz ta tb .none) (hA : IsPair s.heap ta (.ref i1) (.ref i2)) (hB : IsPair s.heap tb a b)
    (h1 : s.heap.IsTupleIter i1 l1 n) (h2 : s.heap.IsTupleIter i2 l2 n) (t1 : s.heap.IsTuple l1 xs) (t2 : s.heap.IsTuple l2 ys) (hx : xs[n]? = some x) (hy : ys[n]? = some y)
    (k : ∀ hp, IsZs hp zz ta tb (rawInt s.heap.objs.size) → IsPair hp tb x y → hp.IsTupleIter i1 l1 (n + 1) → hp.IsTupleIter i2 l2 (n + 1) → IsPair hp s.heap.objs.size x y → hp.objs.size = s.heap.objs.size + 1 →
      (∀ c o, c ≠ zz → c ≠ tb → c ≠ i1 → c ≠ i2 → s.heap.get? c = some o → hp.get? c = some o) → K (some (.ref s.heap.objs.size)) { s with heap := hp }) : wpAny (model prog w) A (pyNext (.ref zz)) K E s := by
  have ty : s.TypeIs (.ref zz) "zip" := ⟨_, hz, rfl⟩
  unfold pyNext
  exact wpAny_bind (wpAny_attempt (wpAny_callSpecial?_slot (name := Str.ofString "__next__") ty F.slot_zip_next (wpAny_call_entry F.slot_zip_next ty F.entry_zip_next
    (next_item D hz hA hB h1 h2 t1 t2 hx hy fun hp b1 b2 b3 b4 b5 b6 b7 => wpAny_pure (k hp b1 b2 b3 b4 b5 b6 b7)) (F.args_zip_next_1 _))))
theorem pn_end {zz ta tb i1 i2 l1 l2 : Addr} {n : Nat} {xs ys : Array Value} {a b : Value} {K : Option Value → Shared → Prop} (hh : A.handled = none) (D : ZipApart zz ta tb i1 i2 l1 l2)
    (hz : IsZs s.heap zz ta tb .none) (hA : IsPair s.heap ta (.ref i1) (.ref i2)) (hB : IsPair s.heap tb a b)
    (h1 : s.heap.IsTupleIter i1 l1 n) (h2 : s.heap.IsTupleIter i2 l2 n) (t1 : s.heap.IsTuple l1 xs) (t2 : s.heap.IsTuple l2 ys) (hx : xs[n]? = none) (hy : ys[n]? = none)
    (k : ∀ hp, (∀ c o, c ≠ zz → c ≠ tb → c ≠ i1 → c ≠ i2 → s.heap.get? c = some o → hp.get? c = some o) → K none { s with heap := hp }) : wpAny (model prog w) A (pyNext (.ref zz)) K E s := by
  have ty : s.TypeIs (.ref zz) "zip" := ⟨_, hz, rfl⟩
  unfold pyNext
  refine wpAny_bind (wpAny_attempt (wpAny_callSpecial?_slot (name := Str.ofString "__next__") ty F.slot_zip_next (wpAny_call_entry F.slot_zip_next ty F.entry_zip_next
    (next_end hh D hz hA hB h1 h2 t1 t2 hx hy fun hp e hk he => ?_) (F.args_zip_next_1 _))))
  obtain ⟨o, ho, hc⟩ := he
  exact wpAny_bind (wpAny_isInstance (T := "StopIteration") (b := true) ⟨o, ho, hc⟩ isSubtype_stop (wpAny_pure (k _ hk)))
/-! the making -/
abbrev sK : Str := Str.ofString "strict"
theorem tc_kw (a b v : Value) : checkTypeCall "zip" ⟨[a, b], [(sK, v)]⟩ = pure () := by kernel_rfl
theorem nc_kw (a b v : Value) : checkBuiltinCall "zip.__new__" ⟨[.type "zip", a, b], [(sK, v)]⟩ = pure () := by kernel_rfl
theorem ao_kw (o a b v : Value) : argsOk "object.__init__" ⟨[o, a, b], [(sK, v)]⟩ := by unfold argsOk; kernel_rfl
abbrev hA1 (h : Heap) (l1 : Addr) : Heap := h.push { cls := .type "tuple_iterator", data := .fields #[.ref l1, .int 0 0] }
abbrev hA2 (h : Heap) (l1 l2 : Addr) : Heap := (hA1 h l1).push { cls := .type "tuple_iterator", data := .fields #[.ref l2, .int 0 0] }
abbrev hA3 (h : Heap) (l1 l2 : Addr) : Heap := (hA2 h l1 l2).push { cls := .type "tuple", data := .seq #[.ref h.objs.size, .ref (hA1 h l1).objs.size] }
abbrev hA4 (h : Heap) (l1 l2 : Addr) : Heap := (hA3 h l1 l2).push { cls := .type "tuple", data := .seq #[.none, .none] }
abbrev hA5 (h : Heap) (l1 l2 : Addr) : Heap := (hA4 h l1 l2).push { cls := .type "zip", data := .fields #[.none, .bool false, .bool true, .ref (hA2 h l1 l2).objs.size, .ref (hA3 h l1 l2).objs.size] }
theorem new_kw (l1 l2 : Addr) (xs ys : Array Value) :
    Meets (Builtin.«zip.__new__» ⟨[.type "zip", .ref l1, .ref l2], [(sK, .bool true)]⟩) (fun _ R s => s.heap.IsTuple l1 xs ∧ s.heap.IsTuple l2 ys ∧
      R (.ok (.ret (.ref (hA4 s.heap l1 l2).objs.size))) { s with heap := hA5 s.heap l1 l2 }) :=
  .of_wp fun prog w A R s h => by
    obtain ⟨hp, g, d, tk, os⟩ := s
    obtain ⟨t1, t2, h⟩ := h
    have hsub := sub_zip
    have q1 : Heap.IsTuple (Shared.heap ⟨hp, g, d, tk, os⟩) l1 xs := t1
    have q2 : Heap.IsTuple (Shared.heap ⟨hp.push { cls := .type "tuple_iterator", data := .fields #[.ref l1, .int 0 0] }, g, d, tk, os⟩) l2 ys := Heap.IsTuple.push t2 _
    have e2 : (sK != ("strict" : Str)) = false := by decide +kernel
    wp_walk using wpAny_pyIter_tuple q1, wpAny_pyIter_tuple q2
    exact ⟨_, rfl, h⟩
theorem call_kw {l1 l2 : Addr} {xs ys : Array Value} {K : Value → Shared → Prop} (t1 : s.heap.IsTuple l1 xs) (t2 : s.heap.IsTuple l2 ys)
    (k : ∀ hp, IsZs hp (s.heap.objs.size + 4) (s.heap.objs.size + 2) (s.heap.objs.size + 3) .none → IsPair hp (s.heap.objs.size + 2) (.ref s.heap.objs.size) (.ref (s.heap.objs.size + 1)) →
      IsPair hp (s.heap.objs.size + 3) .none .none → hp.IsTupleIter s.heap.objs.size l1 0 → hp.IsTupleIter (s.heap.objs.size + 1) l2 0 → hp.objs.size = s.heap.objs.size + 5 →
      (∀ c o, s.heap.get? c = some o → hp.get? c = some o) → K (.ref (s.heap.objs.size + 4)) { s with heap := hp }) :
    wpAny (model prog w) A (call (.type "zip") [.ref l1, .ref l2] [(sK, .bool true)]) K E s := by
  refine callType_newKw F.called_zip (by decide) (tc_kw _ _ _) (nc_kw _ _ _) (fun obj => ao_kw obj _ _ _) F.entry_zip_new (new_kw l1 l2 xs ys) ⟨t1, t2, ?_⟩
  have n1 : (hA1 s.heap l1).objs.size = s.heap.objs.size + 1 := Heap.size_push ..
  have n2 : (hA2 s.heap l1 l2).objs.size = s.heap.objs.size + 2 := by rw [Heap.size_push, n1]
  have n3 : (hA3 s.heap l1 l2).objs.size = s.heap.objs.size + 3 := by rw [Heap.size_push, n2]
  have n4 : (hA4 s.heap l1 l2).objs.size = s.heap.objs.size + 4 := by rw [Heap.size_push, n3]
  have n5 : (hA5 s.heap l1 l2).objs.size = s.heap.objs.size + 5 := by rw [Heap.size_push, n4]
  have p5 : (hA5 s.heap l1 l2).get? (hA4 s.heap l1 l2).objs.size = some _ := Heap.get?_push_size _ rfl
  have p4 : (hA5 s.heap l1 l2).get? (hA3 s.heap l1 l2).objs.size = some _ := Heap.get?_push_of_some _ (Heap.get?_push_size _ rfl)
  have p3 : (hA5 s.heap l1 l2).get? (hA2 s.heap l1 l2).objs.size = some _ := Heap.get?_push_of_some _ (Heap.get?_push_of_some _ (Heap.get?_push_size _ rfl))
  have p2 : (hA5 s.heap l1 l2).get? (hA1 s.heap l1).objs.size = some _ := Heap.get?_push_of_some _ (Heap.get?_push_of_some _ (Heap.get?_push_of_some _ (Heap.get?_push_size _ rfl)))
  have p1 : (hA5 s.heap l1 l2).get? s.heap.objs.size = some _ := Heap.get?_push_of_some _ (Heap.get?_push_of_some _ (Heap.get?_push_of_some _ (Heap.get?_push_of_some _ (Heap.get?_push_size _ rfl))))
  show _ ∧ _
  rw [n2, n3, n4] at p5
  rw [n1, n2] at p3
  rw [n3] at p4
  rw [n1] at p2
  rw [n4]
  exact ⟨⟨_, p5, rfl⟩, k _ p5 p3 p4 ⟨_, p1, rfl, rfl⟩ ⟨_, p2, rfl, rfl⟩ n5 fun c o x => Heap.get?_push_of_some _ (Heap.get?_push_of_some _ (Heap.get?_push_of_some _ (Heap.get?_push_of_some _ (Heap.get?_push_of_some _ x))))⟩
theorem iter_zs {zz ta tb : Addr} {f : Value} {K : Value → Shared → Prop} (hz : IsZs s.heap zz ta tb f) (k : K (.ref zz) s) : wpAny (model prog w) A (pyIter (.ref zz)) K E s := by
  have ty : s.TypeIs (.ref zz) "zip" := ⟨_, hz, rfl⟩
  refine wpAny_pyIter_slot ty F.slot_zip_iter (wpAny_call_entry F.slot_zip_iter ty F.entry_zip_iter ?_ (F.args_zip_iter_1 _))
  show wpAny _ _ (ret (.ref zz)) _ _ s
  exact wpAny_pure ⟨_, rfl, "zip", _, ty, F.slot_zip_next.lookup, k⟩
theorem go_zs {es : List Expr} {kk : Nat} {pos : Pos} {zz ta tb t : Addr} {K : Unit → Shared → Prop} (hz : IsZs s.heap zz ta tb (rawInt t))
    (k : ∀ hp, IsZs hp zz ta tb .none → Heap.SameBut zz s.heap hp → K () { s with heap := hp }) : wpAny (model prog w) A (letOwnedTupleGo (.Tuple es kk pos) (.ref zz) (.ref t)) K E s := by
  unfold letOwnedTupleGo
  refine wpAny_bind (wpAny_load hz ?_)
  show wpAny _ _ (if (["enumerate", "zip", "dict_itemiterator", "dict_reverseitemiterator", "odict_iterator", "itertools.zip_longest", "itertools.pairwise"].contains "zip" && (#[rawInt t, .bool false, .bool true, .ref ta, .ref tb] : Array Value)[0]? == some (rawInt t)) = true then _ else _) K E s
  rw [if_pos (by simp)]
  refine wpAny_bind (wpAny_rule ?_)
  show wpAny _ _ (setField (.ref zz) 0 .none) K E s
  exact wpAny_setField_rec hz (by simp) fun hp z1 s1 => k hp z1 s1
theorem callWith_type_kw {pos : Pos} {T : String} {as : List (Bool × Sem Value)} {kws : List (Option Str × Sem Value)} {K : Value → Shared → Prop} {M : Model} (hp : as.any (·.1) = false) (hk : kws.any (·.1.isNone) = false)
    (h : wpAny M A (evalArgs (.type T) true as kws) (fun a s₁ => wpAny M A (call (.type T) ([] ++ a.pos) a.kw) K E s₁) E s) : wpAny M A (callWith pos (.type T) [] as kws) K E s := by
  unfold callWith
  refine wpAny_bind (wpAny_holding (wpAny_mono h (fun a s₁ h₁ => wpAny_bind (wpAny_standAt ?_)) fun _ _ x => x))
  simp only [hp, hk, Bool.or_false]
  refine wpAny_bind (wpAny_pure ?_)
  exact wpAny_bind (wpAny_mono h₁ (fun r s₂ hr => wpAny_bind (wpAny_holding (wpAny_point (wpAny_pure hr)))) fun _ _ x => x)
end
open PySem.Spec PyProof.Rows L2
/-- two tuples of one length, their items in new pairs -/
def ItS (K : PySem.W.Frag) (a b : Addr) : It :=
  ⟨fun i H => ∃ (xs ys : List V) (x y : V), SqT K H a xs ∧ SqT K H b ys ∧ xs[i]? = some x ∧ ys[i]? = some y,
    fun i H v H' => ∃ T x y, v = .ref T ∧ H T = none ∧ H' = upd H T (.tup [x, y]) ∧ (∀ xs, SqT K H a xs → xs[i]? = some x) ∧ ∀ ys, SqT K H b ys → ys[i]? = some y,
    fun i H => ∃ xs ys : List V, SqT K H a xs ∧ SqT K H b ys ∧ xs.length ≤ i ∧ ys.length ≤ i⟩
theorem turn_zs {P : Program} {w : World} {K : PySem.W.Frag} {es : List Expr} {kk : Nat} {tp : Pos} {a b z t u i1 i2 : Addr} (D : ZipApart z t u i1 i2 a b) :
    Turn P w K (.Tuple es kk tp) (ItS K a b) [z, t, u, i1, i2] z (fun i h => IsZs h z t u .none ∧ IsPair h t (.ref i1) (.ref i2) ∧ (∃ x y, IsPair h u x y) ∧ h.IsTupleIter i1 a i ∧ h.IsTupleIter i2 b i) where
  mem := by simp
  obj := fun i h st c hc => by
    obtain ⟨hz, ht, ⟨x, y, hu⟩, ⟨o1, e1, _, d1⟩, ⟨o2, e2, _, d2⟩⟩ := st
    have w : c = z ∨ c = t ∨ c = u ∨ c = i1 ∨ c = i2 := by simpa using hc
    rcases w with rfl | rfl | rfl | rfl | rfl
    · exact ⟨_, hz, fun v q => nomatch q⟩
    · exact ⟨_, ht, fun v q => nomatch q⟩
    · exact ⟨_, hu, fun v q => nomatch q⟩
    · exact ⟨o1, e1, fun v q => by rw [d1] at q; cases q⟩
    · exact ⟨o2, e2, fun v q => by rw [d2] at q; cases q⟩
  keep := fun i h h' st k => by
    obtain ⟨hz, ht, ⟨x, y, hu⟩, h1, h2⟩ := st
    exact ⟨k z (by simp) _ hz, k t (by simp) _ ht, ⟨x, y, k u (by simp) _ hu⟩, h1.at fun o q => k i1 (by simp) o q, h2.at fun o q => k i2 (by simp) o q⟩
  item := by
    intro X hP hw hK hc i pins s σ H E I hf st hg
    subst hP hw hK
    obtain ⟨hz, ht, ⟨x0, y0, hu⟩, h1, h2⟩ := st
    obtain ⟨xs, ys, x, y, qx, qy, hx, hy⟩ := hg
    obtain ⟨its, rv, p, _⟩ := I.tuple qx
    obtain ⟨its2, rv2, p2, _⟩ := I.tuple qy
    obtain ⟨v1, e1, r1⟩ := rv.get hx
    obtain ⟨v2, e2, r2⟩ := rv2.get hy
    have zl : z < s.heap.objs.size := Heap.lt_size hz
    refine pn_item D hz ht hu h1 h2 p p2 (x := v1) (y := v2) (by simpa using e1) (by simpa using e2) fun g gz gu g1 g2 gt gs gk => ?_
    refine ⟨_, rfl, go_zs (s := { s with heap := g }) gz fun g' gz' sb => ?_⟩
    have new2 : g'.get? s.heap.objs.size = some { cls := .type "tuple", data := .seq #[v1, v2] } := (sb.2 _ (Nat.ne_of_gt zl)).trans gt
    have okN : ObjOk X.prog X.w (upd H s.heap.objs.size (.tup [x, y])) g' s.heap.objs.size (.tup [x, y]) := ⟨by show 2 ≤ sizeLine; decide, [v1, v2], .cons r1 (.cons r2 .nil), ⟨_, new2, rfl, _, rfl⟩⟩
    have J : Inv X pins σ (upd H s.heap.objs.size (.tup [x, y])) { s with heap := g' } := I.turnedNew (t' := s.toks) (ch := [z, t, u, i1, i2]) (fun c o hb q =>
      (sb.2 c (fun q' => hb (by simp [q']))).trans (gk c o (fun q' => hb (by simp [q'])) (fun q' => hb (by simp [q'])) (fun q' => hb (by simp [q'])) (fun q' => hb (by simp [q'])) q)) hf (Nat.le_refl _) okN
    refine ⟨.ref s.heap.objs.size, _, J, rfl, ⟨_, x, y, rfl, I.hok.fresh (Nat.le_refl _), rfl, fun l hl => by rw [I.tuple_inj hl qx]; exact hx, fun l hl => by rw [I.tuple_inj hl qy]; exact hy⟩, ⟨gz', ?_, ⟨v1, v2, ?_⟩, ?_, ?_⟩, fun c hcm => ?_⟩
    · exact (sb.2 _ D.TIz).trans (gk _ _ D.TIz D.TITO D.TIi1 D.TIi2 ht)
    · exact (sb.2 _ D.TOz).trans gu
    · exact g1.at fun o q => (sb.2 _ D.i1z).trans q
    · exact g2.at fun o q => (sb.2 _ D.i2z).trans q
    · have lt : c < s.heap.objs.size := by
        have w : c = z ∨ c = t ∨ c = u ∨ c = i1 ∨ c = i2 := by simpa using hcm
        rcases w with rfl | rfl | rfl | rfl | rfl
        · exact zl
        · exact Heap.lt_size ht
        · exact Heap.lt_size hu
        · obtain ⟨_, e1, _⟩ := h1; exact Heap.lt_size e1
        · obtain ⟨_, e2, _⟩ := h2; exact Heap.lt_size e2
      rw [upd_ne (Nat.ne_of_lt lt)]
      exact (hf c hcm).1
  done := by
    intro X hP hw hK hc i pins s σ H E I hf st hg
    subst hP hw hK
    obtain ⟨hz, ht, ⟨x0, y0, hu⟩, h1, h2⟩ := st
    obtain ⟨xs, ys, qx, qy, e1, e2⟩ := hg
    obtain ⟨its, rv, p, _⟩ := I.tuple qx
    obtain ⟨its2, rv2, p2, _⟩ := I.tuple qy
    have l1 := rv.length
    have l2 := rv2.length
    exact pn_end (I.ok.hd hc) D hz ht hu h1 h2 p p2 (by simp; omega) (by simp; omega) fun g hk => ⟨rfl, I.turnedL (t' := s.toks) (ch := [z, t, u, i1, i2]) (fun c o hb q =>
      hk c o (fun q' => hb (by simp [q'])) (fun q' => hb (by simp [q'])) (fun q' => hb (by simp [q'])) (fun q' => hb (by simp [q'])) q) hf⟩
  self := fun A i s Q E st h => iter_zs st.1 h
def iZs (K : PySem.W.Frag) (ta : TA) : TI := fun σ H R => ta σ H fun vs H1 => ∃ a b xs ys, vs = [.ref a, .ref b] ∧ SqT K H1 a xs ∧ SqT K H1 b ys ∧ R (ItS K a b) H1
theorem pi_zs {X : Cx} {e e2 : Expr} {ta : TA} {p kp cp pos tp : Pos} {es : List Expr} {kk ck : Nat} (hg : Gl X "zip") (hm : X.mg "zip" = none) (ha : PA X [e, e2] ta)
    (hs : starEach [e, e2] X.env = (false, eval e X.env) :: starEach [e2] X.env) (hpl : (backTo pos (starEach [e2] X.env)).any (·.1) = false) :
    PI X (.Tuple es kk tp) (.Call (.Name "zip" p) [e, e2] [⟨some sK, .Constant (.bool true) ck cp, kp⟩] pos) (iZs X.K ta) := by
  refine ⟨fun pins s σ H R I h => ?_⟩
  refine wpAny_Call_Name_kw (ld_blt I hg hm PyProof.Rows.boot_zip ?_ (by decide) (by decide))
  refine callWith_type_kw ?_ rfl ?_
  · rw [hs]; exact hpl
  have he : backTo pos (starEach [e, e2] X.env) = (false, eval e X.env) :: backTo pos (starEach [e2] X.env) := by rw [hs]; rfl
  have body := fun (Q' : List Value → Shared → Prop) (k : ∀ us s1, (∃ vs H1, Inv X pins σ H1 s1 ∧ Vals vs us ∧ ∃ a b xs ys, vs = [.ref a, .ref b] ∧ SqT X.K H1 a xs ∧ SqT X.K H1 b ys ∧ R (ItS X.K a b) H1) → Q' us s1) => thn (ha.run pos pins s σ H _ I h) (Q' := Q') fun us s1 ⟨vs, H1, I1, r1, q1⟩ => k us s1 ⟨vs, H1, I1, r1, q1⟩
  rw [he] at body ⊢
  refine evalArgs_kwB rfl (body _ fun us s1 ⟨vs, H1, I1, r1, a, b, xs, ys, ev, qx, qy, q⟩ => ?_)
  refine thn ((pk_cons (nm := some sK) (kpos := kp) (pe_bl (X := X) (b := true) (j := ck) (pos := cp)) pk_nil).run pos pins s1 σ H1 (fun zs H2 => zs = [.bl true] ∧ H2 = H1) I1 ⟨rfl, rfl⟩) fun ws s2 ⟨zs, H2, I2, r2, ez, eH⟩ => ?_
  subst ev ez eH
  obtain ⟨u1, u2, rfl, c1, c2⟩ := vals2 r1
  cases (show u1 = Value.ref a from c1)
  cases (show u2 = Value.ref b from c2)
  obtain rfl : ws = [.bool true] := by
    cases r2 with
    | cons d1 d2 => cases d2; cases (show _ = Value.bool true from d1); rfl
  show wpAny (model X.prog X.w) X.A (call (.type "zip") [.ref a, .ref b] [(sK, .bool true)]) _ _ _
  obtain ⟨its, rv, p1, _⟩ := I2.tuple qx
  obtain ⟨its2, rv2, p2, _⟩ := I2.tuple qy
  obtain ⟨o1, g1, _⟩ := id p1
  obtain ⟨o2, g2, _⟩ := id p2
  have five : ∀ c, c ∈ [s2.heap.objs.size + 4, s2.heap.objs.size + 2, s2.heap.objs.size + 3, s2.heap.objs.size, s2.heap.objs.size + 1] → FpOk X pins H2 c := fun c hc => by
    have le : s2.heap.objs.size ≤ c := by
      simp only [List.mem_cons, List.not_mem_nil, or_false] at hc
      rcases hc with rfl | rfl | rfl | rfl | rfl <;> omega
    exact I2.fpOk le (I2.hok.fresh le)
  refine call_kw (show s2.heap.IsTuple a its.toArray from p1) (show s2.heap.IsTuple b its2.toArray from p2) fun g gz gt gu j1 j2 gs gk => iter_zs gz ?_
  have I3 : Inv X pins σ H2 { s2 with heap := g } := I2.kept (t' := s2.toks) gk
  exact ⟨s2.heap.objs.size + 4, [s2.heap.objs.size + 4, s2.heap.objs.size + 2, s2.heap.objs.size + 3, s2.heap.objs.size, s2.heap.objs.size + 1], _, _, H2, rfl, I3, turn_zs (PySem.W.ktu_apart s2.heap.objs.size a b (Heap.lt_size g1) (Heap.lt_size g2)), ⟨gz, gt, ⟨_, _, gu⟩, j1, j2⟩, five, q⟩
end Zs
/-! {k: v for t0 in i0 for t1 in i1}, the keys tuples -/
namespace Dc
open PySem PySem.Spec PyProof.Rows L2
abbrev dx (kx vx t0 i0 t1 i1 : Expr) (sc : Scope) (pos : Pos) : Expr := .DictComp kx vx [⟨t0, i0, [], 0⟩, ⟨t1, i1, [], 0⟩] sc pos
theorem turn_out (kx vx t0 i0 t1 i1 : Expr) (sc : Scope) (pos : Pos) (it acc : Value) (env : Env) : compTurn (dx kx vx t0 i0 t1 i1 sc pos) 0 it acc env = (do
    standAt i0.pos
    match ← pyNext it with
    | none => pure (.done .next)
    | some v =>
      letOwnedTupleGo t0 it v
      assign t0 env v
      let y ← eval i1 env
      standAt i1.pos
      let y ← foldedSetIterable i1 env y
      let _ ← runOwn (.compStart (dx kx vx t0 i0 t1 i1 sc pos) 1 (← holding [y] (pyIter y)) acc env) env
      again (.compLoop (dx kx vx t0 i0 t1 i1 sc pos) 0 it acc env)) := by rfl
theorem turn_in (kx vx t0 i0 t1 i1 : Expr) (sc : Scope) (pos : Pos) (it : Value) (D : Addr) (env : Env) : compTurn (dx kx vx t0 i0 t1 i1 sc pos) 1 it (.ref D) env = (do
    standAt i1.pos
    match ← pyNext it with
    | none => pure (.done .next)
    | some v =>
      letOwnedTupleGo t1 it v
      assign t1 env v
      (do
        let a ← eval kx env
        let b ← holding [a] (eval vx env)
        standAt { kx.pos with endLine := vx.pos.endLine, endCol := vx.pos.endCol }
        holding [a, b] (dictSet D a b))
      again (.compLoop (dx kx vx t0 i0 t1 i1 sc pos) 1 it (.ref D) env)) := by rfl
section
variable {prog : Program} {w : World} {A : Around} {R : Result → Shared → Prop} {s : Shared} {kx vx t0 i0 t1 i1 : Expr} {sc : Scope} {pos : Pos} {it : Value} {D : Addr} {env : Env}
abbrev nb (prog : Program) (w : World) (A : Around) (env : Env) (R : Result → Shared → Prop) : Value → Shared → Prop := notedBy (model prog w) A env fun e z => R (.error e) z
theorem loop_out {acc : Value} (hf : ∀ x, foldedSetIterable i1 env x = pure x) (J : Nat → Shared → Prop)
    (go : ∀ n s, J n s → wpAny (model prog w) A (pyNext it) (fun r a1 => match r with
      | none => R (.ok .next) a1
      | some v => wpAny (model prog w) A (letOwnedTupleGo t0 it v) (fun _ a2 => wpAny (model prog w) A (assign t0 env v) (fun _ a3 => wpAny (model prog w) A (eval i1 env) (fun x a4 => wpAny (model prog w) A (pyIter x) (fun it1 a5 =>
          codeAny (model prog w) A (.compStart (dx kx vx t0 i0 t1 i1 sc pos) 1 it1 acc env) (fun r z => match r with
            | .ok _ => ∃ m, m < n ∧ J m z
            | .error _ => False) a5) (nb prog w A env R) a4) (nb prog w A env R) a3) (nb prog w A env R) a2) (nb prog w A env R) a1) (nb prog w A env R) s)
    (n : Nat) (h : J n s) : codeAny (model prog w) A (.compLoop (dx kx vx t0 i0 t1 i1 sc pos) 0 it acc env) R s := by
  refine codeAny_loop rfl J (fun n s hJ => ?_) n h
  show wpAny _ A ((compTurn (dx kx vx t0 i0 t1 i1 sc pos) 0 it acc env).onRaise (fun x => do noteFrame x env; theTreesLotGoes x)) _ _ s
  refine wpAny_noted ?_
  rw [turn_out]
  refine wpAny_bind (wpAny_standAt (wpAny_bind (wpAny_mono (go n s hJ) (fun r a1 q1 => ?_) fun _ _ z => z)))
  cases r with
  | none => exact wpAny_pure q1
  | some v =>
    refine wpAny_bind (wpAny_mono q1 (fun _ a2 q2 => wpAny_bind (wpAny_mono q2 (fun _ a3 q3 => wpAny_bind (wpAny_mono q3 (fun x a4 q4 => ?_) fun _ _ z => z)) fun _ _ z => z)) fun _ _ z => z)
    refine wpAny_bind (wpAny_standAt (wpAny_bind (wpAny_of_eq (hf x) (wpAny_bind (wpAny_holding (wpAny_mono q4 (fun it1 a5 q5 => ?_) fun _ _ z => z))))))
    refine wpAny_bind (wpAny_runOwn ?_)
    rw [Around.mark_none]
    refine codeAny_mono q5 fun r z hr => ?_
    cases r with
    | ok f =>
      first
        | exact wpAny_pure ⟨rfl, hr⟩
        | exact wpAny_bind (wpAny_pure (wpAny_pure ⟨rfl, hr⟩))
    | error e => exact hr.elim
theorem loop_in (J : Nat → Shared → Prop)
    (go : ∀ n s, J n s → wpAny (model prog w) A (pyNext it) (fun r a1 => match r with
      | none => R (.ok .next) a1
      | some v => wpAny (model prog w) A (letOwnedTupleGo t1 it v) (fun _ a2 => wpAny (model prog w) A (assign t1 env v) (fun _ a3 => wpAny (model prog w) A (eval kx env) (fun a a4 => wpAny (model prog w) A (eval vx env) (fun b a5 =>
          wpAny (model prog w) A (dictSet D a b) (fun _ z => ∃ m, m < n ∧ J m z) (nb prog w A env R) a5) (nb prog w A env R) a4) (nb prog w A env R) a3) (nb prog w A env R) a2) (nb prog w A env R) a1) (nb prog w A env R) s)
    (n : Nat) (h : J n s) : codeAny (model prog w) A (.compLoop (dx kx vx t0 i0 t1 i1 sc pos) 1 it (.ref D) env) R s := by
  refine codeAny_loop rfl J (fun n s hJ => ?_) n h
  show wpAny _ A ((compTurn (dx kx vx t0 i0 t1 i1 sc pos) 1 it (.ref D) env).onRaise (fun x => do noteFrame x env; theTreesLotGoes x)) _ _ s
  refine wpAny_noted ?_
  rw [turn_in]
  refine wpAny_bind (wpAny_standAt (wpAny_bind (wpAny_mono (go n s hJ) (fun r a1 q1 => ?_) fun _ _ z => z)))
  cases r with
  | none => exact wpAny_pure q1
  | some v =>
    refine wpAny_bind (wpAny_mono q1 (fun _ a2 q2 => wpAny_bind (wpAny_mono q2 (fun _ a3 q3 => wpAny_bind (wpAny_bind (wpAny_mono q3 (fun a a4 q4 => ?_) fun _ _ z => z))) fun _ _ z => z)) fun _ _ z => z)
    exact wpAny_bind (wpAny_holding (wpAny_mono q4 (fun b a5 q5 => wpAny_bind (wpAny_standAt (wpAny_holding (wpAny_mono q5 (fun _ a6 q6 => wpAny_pure ⟨rfl, q6⟩) fun _ _ z => z)))) fun _ _ z => z))
theorem start_in {acc : Value} (h0 : codeAny (model prog w) A (.compLoop (dx kx vx t0 i0 t1 i1 sc pos) 1 it acc env) R s)
    (h : wpAny (model prog w) A (pyIter it) (fun it' z => codeAny (model prog w) A (.compLoop (dx kx vx t0 i0 t1 i1 sc pos) 1 it' acc env) R z) (nb prog w A env R) s) :
    codeAny (model prog w) A (.compStart (dx kx vx t0 i0 t1 i1 sc pos) 1 it acc env) R s := by
  refine codeAny_of_tree ?_
  show wpAny _ _ ((compStart (dx kx vx t0 i0 t1 i1 sc pos) 1 it acc env).onRaise (fun x => do noteFrame x env; standAt theWindowsPlace)) _ _ s
  refine wpAny_notedAt ?_
  unfold compStart
  show wpAny _ _ (ask >>= _) _ _ s
  refine wpAny_bind (wpAny_askSetting (wpAny_ite ?_))
  split
  · first
      | exact wpAny_bind (wpAny_pure (wpAny_pure (And.intro rfl h0)))
      | exact wpAny_pure (And.intro rfl h0)
  · first
      | exact wpAny_bind (wpAny_rule (wpAny_bind (wpAny_standAt (wpAny_bind (wpAny_mono h (fun it' z q => wpAny_pure (And.intro rfl q)) fun _ _ y => y)))))
      | (refine wpAny_bind (wpAny_rule ?_); show wpAny _ _ (standAt i1.pos >>= _) _ _ s; exact wpAny_bind (wpAny_standAt (wpAny_bind (wpAny_mono h (fun it' z q => wpAny_pure (And.intro rfl q)) fun _ _ y => y))))
end
/-- the entry at a tuple is written -/
theorem put_tup {X : Cx} {pins : List (Addr × Obj)} {σ : L2.St} {H : Hp} {s : Shared} {E : Value → Shared → Prop} {D b : Addr} {kvs : List (List Key × V)} {k : List Key} {v : V} {r : Value} {Q : Unit → Shared → Prop} (hu : X.A.units + 1 < cLine) (I : Inv X pins σ H s) (hD : H D = some (.dT kvs)) (hb : H b = some (.tup (k.map kV)))
    (hz : kvs.length < sizeLine) (rv : RelV v r) (h : ∀ z, Inv X pins σ (upd H D (.dT (putK kvs k v))) z → Q () z) : wpAny (model X.prog X.w) X.A (dictSet D (.ref b) r) Q E s := by
  obtain ⟨z, hd, xs, rel, dd⟩ := dt_of I.hok hD
  have hzx : xs.length ≤ sizeLine := by rw [← Paired.length rel]; exact z
  have hl : (putK kvs k v).length ≤ sizeLine := by have := length_putK kvs k v; omega
  refine wpAny_dictSet_heap (hsz := hzx) (show X.A.units < cLine by omega) (key_of I.hok hb) dd fun h' dd' hs => h _ ?_
  obtain ⟨q, es, ep, hq, h2, h3, h4, _, h5⟩ := dd'
  refine d_write I (by rw [hD]; exact True.intro) hs ⟨q, hq⟩ ⟨hl, hd, _, (rel.put k hb rv).keeps fun c ys ec => ?_, q, es, ep, hq, h2, h3, h4, h5⟩
  rw [upd_ne (ne_of ec hD (fun z => nomatch z))]
  exact ec
/-- behind the first clause's store the second source's own loop; D: the new dict -/
def tDc2 (wi : TI) (g : TG) (wi1 : TI) (g1 : TG) (tk tv : TE) (vs vs1 : List Nat) : TE := fun σ H Q => wi σ H fun J H1 => ∀ D, H1 D = none → ∃ W : Nat → Nat → Hp → Prop, (∃ m, W 0 m (upd H1 D (.dT []))) ∧ ∀ i m H, W i m H →
  (J.stop i H ∧ Q (.ref D) H) ∨ (J.go i H ∧ ∃ N0 : Hp → Prop, (∀ H', N0 H' → ∃ m', m' < m ∧ W (i + 1) m' H') ∧ ∀ x H', J.yld i H x H' → g x (wipe σ vs) H' fun σ2 H2 => wipe σ2 vs = wipe σ vs ∧ wi1 σ2 H2 fun J1 H4 =>
    ∃ W1 : Nat → Nat → Hp → Prop, (∃ m, W1 0 m H4) ∧ ∀ j k H, W1 j k H →
      (J1.stop j H ∧ N0 H) ∨ (J1.go j H ∧ ∃ N1 : Hp → Prop, (∀ H', N1 H' → ∃ k', k' < k ∧ W1 (j + 1) k' H') ∧ ∀ x H', J1.yld j H x H' → g1 x (wipe σ2 vs1) H' fun σ3 H5 => wipe σ3 vs1 = wipe σ2 vs1 ∧
        tk σ3 H5 fun y H6 => tv σ3 H6 fun z H7 => ∃ kvs ks b, y = .ref b ∧ H7 b = some (.tup (ks.map kV)) ∧ H7 D = some (.dT kvs) ∧ kvs.length < sizeLine ∧ N1 (upd H7 D (.dT (putK kvs ks z)))))
section
variable {X : Cx} {kx vx t0 i0 t1 i1 : Expr} {sc : Scope} {own : List (Str × Nat)} {vs1 : List Nat} {pos : Pos} {wi wi1 : TI} {g g1 : TG} {tk tv : TE}
/-- for every block of this comprehension -/
abbrev Blk (X : Cx) (sc : Scope) (P : Cx → Prop) : Prop := ∀ (s : Shared) (H : Hp) (C : Addr) (cl : List (Str × Addr)) (fp : List Addr), P (X.blk s H sc (compEnvC sc cl C X.env) fp)
theorem pe_dc2 (hu : X.A.units + 1 < cLine) (hc : X.calm = true) (hN : X.N.Nodup) (hi : PI X t0 i0 wi) (ok : BlkOk X.N X.env.scope sc own) (hv : ∀ i ∈ vs1, i ∈ own.map (·.2)) (hg : Blk X sc fun Y => PG Y t0 g) (hi1 : Blk X sc fun Y => PI Y t1 i1 wi1) (hg1 : Blk X sc fun Y => PG Y t1 g1)
    (hk : Blk X sc fun Y => PE Y kx tk) (he : Blk X sc fun Y => PE Y vx tv) (hs : ∀ x, foldedSetIterable i0 X.env x = pure x) (hs1 : ∀ env x, foldedSetIterable i1 env x = pure x) :
    PE X (dx kx vx t0 i0 t1 i1 sc pos) (tDc2 wi g wi1 g1 tk tv (own.map (·.2)) vs1) := by
  refine ⟨fun pins s σ H Q I h => ?_⟩
  rw [arm_eval_DictComp]
  have free : ∀ y ∈ sc.names, y.2 = .free → ∃ c, X.env.cells.lookup y.1 = some c := fun y hy e => (ok.free y hy e).elim (fun k => I.ok.has _ (.inl k)) fun k => I.ok.has _ (.inr k)
  refine wpAny_comprehension_free (use := none) rfl hs (closure_ok free) ok.kind (fun y hy e => by rw [ok.uniq y hy, e]) (thn (hi.run pins s σ H _ I h) fun xv a1 b1 => thn b1 fun itv a2 b2 => ?_)
  obtain ⟨it, fp, tn, J, H2, rfl, I2, T, st2, f2, q⟩ := b2
  refine wpAny_newObj_type (newEnv_comp ?_)
  generalize hD : a2.heap.objs.size = D
  obtain ⟨W, ⟨m0, w0⟩, turn⟩ := q D (I2.hok.fresh (Nat.le_of_eq hD))
  generalize e3 : ({ a2 with heap := a2.heap.push { cls := .type "dict", data := .dict #[] } } : Shared) = a3
  have I3 : Inv X pins σ (upd H2 D (.dT [])) a3 := by
    rw [← e3]
    refine I2.laid (t' := a2.toks) (fun b o e => Heap.get?_push_of_some _ e) (Nat.le_of_eq hD) ?_
    rw [← hD]
    exact dt_empty a2.heap I2.big
  have e3h : a3.heap = a2.heap.push { cls := .type "dict", data := .dict #[] } := by rw [← e3]
  have f3 : ∀ b ∈ fp, FpOk X pins (upd H2 D (.dT [])) b ∧ b < a3.heap.objs.size := fun b hb => by
    obtain ⟨o, e, _⟩ := T.obj _ _ st2 b hb
    have lt : b < a2.heap.objs.size := Heap.lt_size e
    refine ⟨⟨?_, (f2 b hb).2⟩, by rw [e3h, Heap.size_push]; exact Nat.lt_succ_of_lt lt⟩
    rw [upd_ne (by rw [← hD]; exact Nat.ne_of_lt lt)]
    exact (f2 b hb).1
  have st3 : tn 0 a3.heap := T.keep _ _ _ st2 fun b _ o e => by rw [e3h]; exact Heap.get?_push_of_some _ e
  have I4 := block_start I3 ok hN f3
  have pg := hg a3 (upd H2 D (.dT [])) a3.heap.objs.size (cellsFrom (a3.heap.objs.size + 1) sc.names (cloFrom X.env.cells sc.names [])) fp
  have pk := hk a3 (upd H2 D (.dT [])) a3.heap.objs.size (cellsFrom (a3.heap.objs.size + 1) sc.names (cloFrom X.env.cells sc.names [])) fp
  have pe := he a3 (upd H2 D (.dT [])) a3.heap.objs.size (cellsFrom (a3.heap.objs.size + 1) sc.names (cloFrom X.env.cells sc.names [])) fp
  have pi1 := hi1 a3 (upd H2 D (.dT [])) a3.heap.objs.size (cellsFrom (a3.heap.objs.size + 1) sc.names (cloFrom X.env.cells sc.names [])) fp
  have pg1 := hg1 a3 (upd H2 D (.dT [])) a3.heap.objs.size (cellsFrom (a3.heap.objs.size + 1) sc.names (cloFrom X.env.cells sc.names [])) fp
  show codeAny _ _ (.compStart (dx kx vx t0 i0 t1 i1 sc pos) 0 (.ref it) (.ref D) (compEnvC sc (cellsFrom (a3.heap.objs.size + 1) sc.names (cloFrom X.env.cells sc.names [])) a3.heap.objs.size X.env)) (compPost (model X.prog X.w) X.A X.xe none (EP X pins σ Q) (.ref D) a3.heap.objs.size) { a3 with heap := pushCells (a3.heap.push { cls := .type "dict", data := .dict #[] }) sc.names }
  have nfp : ∀ b ∈ fp, (upd H2 D (.dT [])) b = none := fun b hb => (f3 b hb).1.1
  generalize hce : compEnvC sc (cellsFrom (a3.heap.objs.size + 1) sc.names (cloFrom X.env.cells sc.names [])) a3.heap.objs.size X.env = ce at I4 pg pk pe pi1 pg1 ⊢
  have cL : ce.locals = a3.heap.objs.size := by subst hce; rfl
  generalize hH3 : upd H2 D (.dT []) = H3 at I3 I4 pg pk pe pi1 pg1 w0 nfp f3
  generalize e4 : ({ a3 with heap := pushCells (a3.heap.push { cls := .type "dict", data := .dict #[] }) sc.names } : Shared) = a4 at I4 ⊢
  have st4 : tn 0 a4.heap := T.keep _ _ _ st3 fun b _ o e => by rw [← e4]; exact pushCells_keeps _ _ _ _ (Heap.get?_push_of_some _ e)
  have fpok : ∀ {σ' : L2.St} {H' : Hp} {z : Shared}, Inv (X.blk a3 H3 sc ce fp) [] σ' H' z → (∀ b ∈ fp, H' b = none) → ∀ b ∈ fp, FpOk (X.blk a3 H3 sc ce fp) [] H' b := fun {σ' H' z} Z hn b hb =>
    ⟨hn b hb, (Z.ok.exf b hb).1, Z.ok.exfs b hb, .inl hb, fun x c e => (Z.ok.exf b hb).2 x c e, fun p hp => absurd (show p ∈ ([] : List (Addr × Obj)) ++ [] from hp) (by simp)⟩
  have loop : codeAny (model X.prog X.w) X.A (.compLoop (dx kx vx t0 i0 t1 i1 sc pos) 0 (.ref it) (.ref D) ce) (compPost (model X.prog X.w) X.A X.xe none (EP X pins σ Q) (.ref D) a3.heap.objs.size) a4 := by
    refine loop_out (hs1 ce) (fun n z => ∃ i H', Inv (X.blk a3 H3 sc ce fp) [] (wipe σ (own.map (·.2))) H' z ∧ tn i z.heap ∧ (∀ b ∈ fp, H' b = none) ∧ W i n H') ?_ m0 ⟨0, H3, I4, st4, nfp, w0⟩
    rintro n a5 ⟨i, H5, I5, st5, n5, w5⟩
    rcases turn i n H5 w5 with ⟨stop, qq⟩ | ⟨go, N0, hN0, step⟩
    · refine thnF (T.done (X.blk a3 H3 sc ce fp) rfl rfl rfl hc i [] a5 _ H5 (fun _ _ => False) I5 (fpok I5 n5) st5 stop) fun r a6 ⟨hr, I6⟩ => ?_
      subst hr
      have I7 : Inv X pins σ H5 a6 := I3.call' (ch := fp) I6.os I6.base I6.hok I6.bare fun b hb => ⟨(f3 b hb).1.2.2.2.1, (f3 b hb).1.2.1, (f3 b hb).1.2.2.2.2.1, (f3 b hb).1.2.2.2.2.2⟩
      have nC : H5 a3.heap.objs.size = none := by rw [← cL]; exact I6.free
      obtain ⟨m, hn, _⟩ := I6.loc
      have hn : a6.heap.Ns ce.locals m := hn
      rw [cL] at hn
      refine ⟨m, hn, fun h'' sb => ?_⟩
      obtain ⟨g0, g1, g2, g3, g4, g5⟩ := I3.fpOk (Nat.le_refl _) nC
      exact ⟨.ref D, H5, I7.turned (t' := a6.toks) (fun b o hb e => (sb.2 b hb).trans e) g0 g1 g3 g4 g5, rfl, qq⟩
    · refine thnF (T.item (X.blk a3 H3 sc ce fp) rfl rfl rfl hc i [] a5 _ H5 (fun _ _ => False) I5 (fpok I5 n5) st5 go) fun r a6 ⟨u, hr, b6⟩ => ?_
      subst hr
      refine thnF b6 fun _ a7 ⟨x, H7, I7, r7, y7, st7, n7⟩ => ?_
      refine thnF (pg.run _ a7 _ H7 x u _ (I7.pinned (fpok I7 n7) (T.obj _ _ st7)) r7 (step x H7 y7)) fun _ a8 ⟨σ8, H8, I8, hw8, q8⟩ => ?_
      have len8 : (wipe σ (own.map (·.2))).length = σ8.length := by rw [← hw8, wipe_length]
      have know : ∀ (j : Nat) v, (wipe σ (own.map (·.2)))[j]? = some (some v) → (wipe σ8 vs1)[j]? = some (some v) := fun j v e => by
        rw [← hw8] at e
        obtain ⟨e1, e2⟩ := wipe_some e
        rw [wipe_out fun z => e2 (hv j z)]
        exact e1
      refine thnF (pi1.run _ a8 σ8 H8 _ I8 q8) fun xv a9 b9 => thnF b9 fun itv a10 b10 => ?_
      obtain ⟨it1, fp1, tn1, J1, H10, rfl, I10, T1, st10, f10, W1, ⟨m1, w1⟩, turn1⟩ := b10
      have fpok1 : ∀ {H' : Hp}, (∀ b ∈ fp1, H' b = none) → ∀ b ∈ fp1, FpOk (X.blk a3 H3 sc ce fp) ([] ++ pinsAt fp a7.heap) H' b := fun hn b hb => ⟨hn b hb, (f10 b hb).2⟩
      have inner : codeAny (model X.prog X.w) X.A (.compLoop (dx kx vx t0 i0 t1 i1 sc pos) 1 (.ref it1) (.ref D) ce) (fun r z => match r with
          | .ok _ => ∃ m, m < n ∧ ∃ i H', Inv (X.blk a3 H3 sc ce fp) [] (wipe σ (own.map (·.2))) H' z ∧ tn i z.heap ∧ (∀ b ∈ fp, H' b = none) ∧ W i m H'
          | .error _ => False) a10 := by
        refine loop_in (fun k z => ∃ j H', Inv (X.blk a3 H3 sc ce fp) ([] ++ pinsAt fp a7.heap) (wipe σ8 vs1) H' z ∧ tn1 j z.heap ∧ (∀ b ∈ fp1, H' b = none) ∧ W1 j k H') ?_ m1 ⟨0, H10, I10.weak (wipe_length _ _) (fun j v e => (wipe_some e).1), st10, fun b hb => (f10 b hb).1, w1⟩
        rintro k a11 ⟨j, H11, I11, st11, n11, w11⟩
        rcases turn1 j k H11 w11 with ⟨stop1, nx⟩ | ⟨go1, N1, hN1, step1⟩
        · refine thnF (T1.done (X.blk a3 H3 sc ce fp) rfl rfl rfl hc j _ a11 (wipe σ8 vs1) H11 (fun _ _ => False) I11 (fpok1 n11) st11 stop1) fun r a12 ⟨hr, I12⟩ => ?_
          subst hr
          obtain ⟨m', hm, w'⟩ := hN0 H11 nx
          have pin : ∀ b ∈ fp, ∀ o, a7.heap.get? b = some o → a12.heap.get? b = some o ∧ H11 b = none := fun b hb o e =>
            let z := I12.pin (b, o) (List.mem_append_right _ (List.mem_append_right _ (mem_pinsAt hb e)))
            ⟨z.1, z.2.1⟩
          refine ⟨m', hm, i + 1, H11, (I12.unpinned (pins := [])).weak (len8.trans (wipe_length σ8 vs1).symm) know, T.keep _ _ _ st7 fun b hb o e => (pin b hb o e).1, fun b hb => ?_, w'⟩
          obtain ⟨o, e, _⟩ := T.obj _ _ st7 b hb
          exact (pin b hb o e).2
        · refine thnF (T1.item (X.blk a3 H3 sc ce fp) rfl rfl rfl hc j _ a11 (wipe σ8 vs1) H11 (fun _ _ => False) I11 (fpok1 n11) st11 go1) fun r a12 ⟨u1, hr, b12⟩ => ?_
          subst hr
          refine thnF b12 fun _ a13 ⟨x1, H13, I13, r13, y13, st13, n13⟩ => ?_
          refine thnF (pg1.run _ a13 (wipe σ8 vs1) H13 x1 u1 _ (I13.pinned (fpok1 n13) (T1.obj _ _ st13)) r13 (step1 x1 H13 y13)) fun _ a14 ⟨σ14, H14, I14, hw14, q14⟩ => ?_
          refine thnF (pk.run _ a14 σ14 H14 _ I14 q14) fun kv a15 ⟨yk, H15, I15, r15, q15⟩ => ?_
          refine thnF (pe.run _ a15 σ14 H15 _ I15 q15) fun vv a16 ⟨yv, H16, I16, r16, kvs, ks, b, ek, hb, hD16, hz, nx⟩ => ?_
          subst ek
          cases (show kv = Value.ref b from r15)
          refine put_tup (X := X.blk a3 H3 sc ce fp) hu I16 hD16 hb hz r16 fun a17 I17 => ?_
          obtain ⟨m', hm, w'⟩ := hN1 _ nx
          have pin : ∀ b ∈ fp1, ∀ o, a13.heap.get? b = some o → a17.heap.get? b = some o ∧ upd H16 D (.dT (putK kvs ks yv)) b = none := fun b hb o e =>
            let z := I17.pin (b, o) (List.mem_append_right _ (List.mem_append_right _ (mem_pinsAt hb e)))
            ⟨z.1, z.2.1⟩
          refine ⟨m', hm, j + 1, _, I17.unpinned.weak (by rw [← hw14, wipe_length]) (fun j v e => by rw [← hw14] at e; exact (wipe_some e).1), T1.keep _ _ _ st13 fun b hb o e => (pin b hb o e).1, fun b hb => ?_, w'⟩
          obtain ⟨o, e, _⟩ := T1.obj _ _ st13 b hb
          exact (pin b hb o e).2
      exact start_in inner (T1.self X.A 0 _ _ _ st10 inner)
  exact codeAny_compStart_dict loop (T.self X.A 0 _ _ _ st4 loop)
end
end Dc
namespace Ev
open PySem L2
section
variable {X : Cx} {W : Wx} {e a b : Expr} {K : PySem.W.Frag} {g : Gh} {ω ω' : Wd} {ρ : En} {st st' : Cel} {σ : St} {H H' : Hp}
/-! ### zip(.., strict=True), dicts with tuple keys -/
theorem si_zips {tg iter : Expr} {f f' : En → Cel → R PV} (hpi : ∀ ta tb, PE X a ta → PE X b tb → PI X tg iter (Zs.iZs X.K (tCons ta (tCons tb tNil)))) (ha : PE X a (tv X.K false W f)) (hb : PE X b (tv X.K false W f')) {bb : Bool} :
    PI X tg iter (ti X.K bb W fun ρ st => (f ρ st).bind fun x st => (f' ρ st).bind fun y st => R.of (zipsV x y) st) := by
  refine wPI (hpi _ _ ha hb) fun σ H R ⟨g, ω, ρ, st, rel, q⟩ => (bindI (P := RepM X.K false) (f := f) rel q).mono fun x H1 ⟨ω1, st1, t, x1, rel1, p, q⟩ => ?_
  refine (bindI (P := RepM X.K false) (f := f') rel1 q).mono fun y H2 ⟨ω2, st2, u, x2, rel2, p2, q2⟩ => ?_
  have pp := p.extE x2 rel1.cells
  cases t with
  | tup ts =>
    cases u with
    | tup us =>
      unfold zipsV at q2
      dsimp only at q2
      by_cases hl : ts.length = us.length
      · rw [if_pos hl] at q2
        obtain ⟨_, ex, q2⟩ := q2
        cases ex
        obtain ⟨a, xs, rfl, ha, ra⟩ := pp.tup
        obtain ⟨b, ys, rfl, hb, rb⟩ := p2.tup
        have l1 := ra.length
        have l2 := rb.length
        refine ⟨a, b, xs, ys, rfl, ha, hb, q2 _ H2 ω2 (ExtE.refl _ _) rel2.cells (it_zip ra rb fun ω' H' z _ => ?_)⟩
        have ha' := z.sqT ha
        have hb' := z.sqT hb
        refine ⟨fun i hi => ⟨xs, ys, xs[i]'(by omega), ys[i]'(by omega), ha', hb', by simp [show i < xs.length by omega], by simp [show i < ys.length by omega]⟩, ⟨xs, ys, ha', hb', by omega, by omega⟩, fun i v H'' hy => ?_⟩
        obtain ⟨T, x, y, e1, e2, e3, e4, e5⟩ := hy
        exact ⟨T, x, y, e1, e2, e3, e4 xs ha', e5 ys hb'⟩
      · rw [if_neg hl] at q2; exact q2.elim
    | _ => exact q2.elim
  | _ => exact q2.elim
/-- d[k] -/
theorem key_sq {pins : List (Addr × Obj)} {s : Shared} {a : Addr} {ks : List Key} (I : Inv X pins σ H s) (h : SqT X.K H a (ks.map kV)) : (tupleKind (mixKind X.prog X.w)).is s.heap ks a := by
  obtain ⟨its, r, ⟨o, h1, h2, n, h3⟩, _⟩ := I.tuple h
  exact ⟨o, its.toArray, n, h1, h2, h3, by simpa using items_are r⟩
def tDGetS (K : PySem.W.Frag) (td ty : TE) : TE := fun σ H Q => td σ H fun x H1 => ty σ H1 fun y H2 => ∃ (a b : Addr) (kvs : List (List Key × V)) (k : List Key) (v : V), x = .ref a ∧ y = .ref b ∧ H2 a = some (.dT kvs) ∧ SqT K H2 b (k.map kV) ∧ valV kvs k = some v ∧ Q v H2
theorem pe_dgetS {o i : Expr} {pos : Pos} {td ty : TE} (hu : X.A.units + 1 < cLine) (ho : PE X o td) (hi : PE X i ty) (hs : NoSl i) : PE X (.Subscript o i pos) (tDGetS X.K td ty) := by
  refine ⟨fun pins s σ H Q I h => ?_⟩
  refine subD_of PySem.F.slot_dict_getitem.lookup hs (thn (ho.run pins s σ H _ I h) fun u s1 ⟨x, H1, I1, rx, q1⟩ => thn (hi.run pins s1 σ H1 _ I1 q1) fun iv s2 ⟨y, H2, I2, ry, a, b, kvs, k, v, ex, ey, ea, eb, ev, q2⟩ => ?_)
  subst ex ey
  obtain rfl : u = Value.ref a := rx
  obtain rfl : iv = Value.ref b := ry
  obtain ⟨z, hd, xs, rel, dd⟩ := dt_rd I2.hok (.inl ea)
  refine ⟨dd.typeIs, ?_⟩
  obtain ⟨w', hw, rw'⟩ := RelO.some_of (v := v) (o := (atKey xs k).map (·.2)) (by rw [← ev]; exact rel.val k)
  obtain ⟨p, hp, hp2⟩ := Option.map_eq_some_iff.mp hw
  refine wpAny_getItem_heap (tupleKind_room_in1 hu) (key_sq I2 eb) dd hp ?_
  rw [hp2]
  exact ⟨v, H2, I2.tok _, rw', q2⟩
theorem RepM.dtt {b : Bool} {x : V} {ks : List (List Key)} {ts : List PV} (h : RepM K b ω H x (.dtt ks ts)) : ∃ a kvs, x = .ref a ∧ ω.S a ∧ H a = some (.dT kvs) ∧ ks = kvs.map (·.1) ∧ RepL K ω H (kvs.map (·.2)) ts := by
  rcases h with h | ⟨_, a, e, ⟨vs, ts', e1, e2, e3⟩, _⟩
  · cases h with
    | dtt s h r => exact ⟨_, _, rfl, s, h, rfl, r⟩
  · cases e1
theorem valT_get : ∀ {kvs : List (List Key × V)} {ts : List PV} {k : List Key} {t : PV}, RepL K ω H (kvs.map (·.2)) ts → valT (kvs.map (·.1)) ts k = some t → ∃ v, valV kvs k = some v ∧ Rep K ω H v t
  | [], _, _, _, .nil, h => by cases h
  | q :: r, _, k, t, .cons h1 h2, h => by
    rw [List.map_cons, valT] at h
    split at h
    · rename_i e
      cases h
      exact ⟨q.2, valV_pos e, h1⟩
    · rename_i e
      obtain ⟨v, e1, e2⟩ := valT_get h2 h
      exact ⟨v, by rw [valV_neg e]; exact e1, e2⟩
theorem keyL_v : ∀ {vs : List V} {ts : List PV} {ks : List Key}, RepL K ω H vs ts → keyL ts = some ks → vs = ks.map kV
  | [], _, _, .nil, h => by cases h; rfl
  | v :: vs, t :: ts, ks, .cons h1 h2, h => by
    unfold keyL at h
    split at h
    · rename_i k ks' e1 e2
      cases h
      rw [List.map_cons, ← keyL_v h2 e2, ← keyP_v (b := false) (.inl h1) e1]
    · cases h
theorem se_dgetT {f f' : En → Cel → R PV} {bz : Bool} (hpe : ∀ ta tb, PE X a ta → PE X b tb → PE X e (tDGetS X.K ta tb)) (ha : PE X a (tv X.K true W f)) (hb : PE X b (tv X.K true W f')) :
    PE X e (tv X.K bz W fun ρ st => (f ρ st).bind fun x st => (f' ρ st).bind fun y st => R.of (dgetTV x y) st) := by
  refine wPE (hpe _ _ ha hb) fun σ H Q ⟨g, ω, ρ, st, rel, h⟩ => (bindG (P := RepM X.K true) rel h).mono fun x H1 ⟨ω1, st1, t, x1, rel1, p, q⟩ => ?_
  refine (bindG (P := RepM X.K true) (f := f') rel1 q).mono fun y H2 ⟨ω2, st2, u, x2, rel2, p2, q2⟩ => ?_
  obtain ⟨z, ez, qz⟩ := of_post rel2 q2
  have pp := p.extE x2 rel1.cells
  unfold dgetTV at ez
  split at ez
  · rename_i ks ts xs
    obtain ⟨d, kvs, rfl, hs, hd, rfl, rv⟩ := pp.dtt
    obtain ⟨b, ys, rfl, hb, rb⟩ := p2.tup
    split at ez
    · rename_i k ek
      obtain ⟨v, e1, e2⟩ := valT_get rv ez
      exact ⟨d, b, kvs, k, v, rfl, rfl, hd, by rw [← keyL_v rb ek]; exact hb, e1, qz _ _ ω2 (Grow.refl _ _) e2⟩
    · cases ez
  · cases ez
/-- list(d) -/
theorem repl_kV : ∀ {ks : List Key}, RepL K ω H (ks.map kV) (ks.map kP)
  | [] => .nil
  | .inl i :: r => .cons (.int i) repl_kV
  | .inr x :: r => .cons (.str x) repl_kV
theorem keys_rep {kvs : List (List Key × V)} {bs : List Addr} (h : IsKeys H kvs bs) : RepL K ω H (bs.map V.ref) ((kvs.map (·.1)).map fun k => .tup (k.map kP)) := by
  unfold IsKeys at h
  induction h with
  | nil => exact .nil
  | cons h t ih => exact .cons (.tup (.inl (.inl h)) repl_kV) ih
theorem sF_dkeys {f : En → Cel → R PV} (hpe : ∀ ta, PE X a ta → PE X e (tUn (rC1 (fun xs H Q => ∃ d kvs, xs = [V.ref d] ∧ Rd H d (.dT kvs) ∧ ∀ p bs, H p = none → IsKeys H kvs bs → Q (.ref p) (upd H p (.lst (bs.map V.ref))))) ta)) (ha : PE X a (tv X.K true W f)) :
    PE X e (tvF X.K W fun ρ st => (f ρ st).bind fun x st => R.of (dkeysV x) st) := by
  refine sF1 (v := fun _ => dkeysV) hpe ha fun st x t z ω H Q c hx hv q => ?_
  unfold dkeysV at hv
  split at hv
  · cases hv
    obtain ⟨d, kvs, rfl, hs, hd, rfl, rv⟩ := hx.dtt
    exact ⟨d, kvs, rfl, .inl hd, fun p bs hp hk => q _ _ rfl (keys_rep hk) p hp⟩
  · cases hv
/-! {(k1, k2): v for .. in .. for .. in ..} -/
theorem trips_app : ∀ {xs ys : List PV} {q : List (List Key) × List PV}, trips (xs ++ ys) = some q → ∃ p r, trips xs = some p ∧ trips ys = some r ∧ q = (p.1 ++ r.1, p.2 ++ r.2)
  | [], ys, q, h => ⟨([], []), q, rfl, h, rfl⟩
  | x :: xs, ys, q, h => by
    rw [List.cons_append] at h
    unfold trips at h
    split at h
    · rename_i p1 q1 e1 e2
      cases h
      obtain ⟨p, r, h1, h2, rfl⟩ := trips_app e2
      refine ⟨(p1.1 :: p.1, p1.2 :: p.2), r, ?_, h2, rfl⟩
      unfold trips
      rw [e1, h1]
    · cases h
theorem trip_of {a b z : PV} {p : List Key × PV} (h : trip (.tup [a, b, z]) = some p) : ∃ k l, keyP a = some k ∧ keyP b = some l ∧ p = ([k, l], z) := by
  unfold trip at h
  dsimp only at h
  split at h
  · rename_i k l e1 e2
    cases h
    exact ⟨k, l, e1, e2, rfl⟩
  · cases h
theorem putK_new {kvs : List (List Key × V)} {k : List Key} {v : V} (h : k ∉ kvs.map (·.1)) : putK kvs k v = kvs ++ [(k, v)] := by
  unfold putK
  rw [if_neg]
  simp only [List.any_eq_true, decide_eq_true_eq, not_exists, not_and]
  rintro ⟨k', v'⟩ hm rfl
  exact h (List.mem_map_of_mem hm)
/-- D stands apart -/
structure AptD (D : Addr) (kvs : List (List Key × V)) (ω : Wd) (H : Hp) : Prop where
  at_ : H D = some (.dT kvs)
  nS : ¬ ω.S D
  nC : D ∉ ω.cs
theorem AptD.extE {D : Addr} {vs : List (List Key × V)} (p : AptD D vs ω H) (x : ExtE ω H ω' H') : AptD D vs ω' H' := by
  refine ⟨x.keep _ _ p.at_ p.nC, fun z => ?_, fun z => ?_⟩
  · rcases x.newS D z with z | z
    · exact p.nS z
    · rw [p.at_] at z; cases z
  · rcases x.newC D z with z | z
    · exact p.nC z
    · rw [p.at_] at z; cases z
theorem AptD.grow {D : Addr} {vs : List (List Key × V)} (p : AptD D vs ω H) (x : Grow ω H ω' H') : AptD D vs ω' H' := by
  refine ⟨x.keep _ _ p.at_, fun z => ?_, by rw [x.cs]; exact p.nC⟩
  rcases x.new D z with z | ⟨z, _⟩
  · exact p.nS z
  · rw [p.at_] at z; cases z
def turnD (Φ : Nat → List PV → Cel → R PV) (k1 k2 v : C) (tg : List Nat) (own : List Nat) (ρ : En) : PV → Cel → R (Option PV) := fun y st => match assignT tg y (wipeE ρ own) with
  | some ρ2 => (ev Φ k1 ρ2 st).bind fun a st => (ev Φ k2 ρ2 st).bind fun b st => (ev Φ v ρ2 st).bind fun z st => .ok (some (.tup [a, b, z])) st
  | none => .bad
def turnD2 (Φ : Nat → List PV → Cel → R PV) (k1 k2 v : C) (tg : List Nat) (tg2 : List Nat) (it2 : C) (own own2 : List Nat) (ρ : En) : PV → Cel → R (List PV) := fun x st => match assignT tg x (wipeE ρ own) with
  | some ρ1 => (ev Φ it2 ρ1 st).bind fun iv2 st => (match itemsOf iv2 with
    | some ys => compL (turnD Φ k1 k2 v tg2 own2 ρ1) ys st
    | none => .bad)
  | none => .bad
/-- what the dict holds so far -/
structure Dso (K : PySem.W.Frag) (ω : Wd) (H : Hp) (kvs : List (List Key × V)) (ys : List PV) : Prop where
  ex : ∃ ts, trips ys = some (kvs.map (·.1), ts) ∧ RepL K ω H (kvs.map (·.2)) ts
theorem Dso.mono {kvs : List (List Key × V)} {ys : List PV} (h : Dso K ω H kvs ys) (e : Ext ω H ω' H') : Dso K ω' H' kvs ys := by
  obtain ⟨ts, h1, h2⟩ := h.ex
  exact ⟨ts, h1, h2.mono e⟩
structure Dc2 (K : PySem.W.Frag) (ω0 : Wd) (H0 : Hp) (D : Addr) (f : PV → Cel → R (List PV)) (xs : List PV) (full : List PV) (stF : Cel) (i : Nat) (H : Hp) : Prop where
  ex : ∃ ω st vs ys rest, ExtE ω0 H0 ω H ∧ CelOk K ω st H ∧ AptD D vs ω H ∧ Dso K ω H vs ys ∧ flatL f (xs.drop i) st = .ok rest stF ∧ full = ys ++ rest
structure Dc3 (K : PySem.W.Frag) (ω1 : Wd) (H1 : Hp) (ω4 : Wd) (H4 : Hp) (D : Addr) (f : PV → Cel → R (Option PV)) (xs : List PV) (full : List PV) (stF : Cel) (i : Nat) (H : Hp) : Prop where
  ex : ∃ ω st vs ys rest, Ext ω4 H4 ω H ∧ ExtE ω1 H1 ω H ∧ CelOk K ω st H ∧ AptD D vs ω H ∧ Dso K ω H vs ys ∧ compL f (xs.drop i) st = .ok rest stF ∧ full = ys ++ rest
theorem dcomp2_w {Φ : Nat → List PV → Cel → R PV} {k1 k2 v : C} {tg tg2 own own2 : List Nat} {it it2 : C} {bz : Bool} (hn : nested tg = false) (hsub : ownOk tg own = true) (hsub2 : ownOk tg2 own2 = true) : ∀ σ H Q, tv K bz W (ev Φ (.dcomp2 k1 k2 v tg it tg2 it2 own own2)) σ H Q →
    Dc.tDc2 (ti K true W (ev Φ it)) (gAsg K tg) (ti K false W0 (ev Φ it2)) (gAsg K tg2) (tTup (tCons (tv K false W0 (ev Φ k1)) (tCons (tv K false W0 (ev Φ k2)) tNil))) (tv K false W0 (ev Φ v)) own own2 σ H Q := by
  intro σ H Q ⟨g, ω, ρ, st, rel, h⟩
  have hd : ev Φ (.dcomp2 k1 k2 v tg it tg2 it2 own own2) ρ st = (ev Φ it ρ st).bind fun iv st => match itemsOf iv with
    | some xs => (flatL (turnD2 Φ k1 k2 v tg tg2 it2 own own2 ρ) xs st).bind fun ys st => R.of (dttV ys) st
    | none => .bad := by
    rw [ev]
    rfl
  rw [hd] at h
  refine ⟨g, ω, ρ, st, rel, ?_⟩
  cases e1 : ev Φ it ρ st with
  | bad => rw [e1] at h; exact h.elim
  | exc x s => rw [e1] at h; exact h
  | ok iv s =>
    rw [e1] at h
    simp only [R.bind_ok] at h
    cases e2 : itemsOf iv with
    | none => rw [e2] at h; exact h.elim
    | some xs =>
      rw [e2] at h
      refine ⟨xs, e2, fun J H1 ω1 x1 c1 hJ D hD => ?_⟩
      dsimp only at h
      cases e3 : flatL (turnD2 Φ k1 k2 v tg tg2 it2 own own2 ρ) xs s with
      | bad => rw [e3] at h; exact h.elim
      | exc x s3 => exact absurd e3 (flatL_noexc xs s)
      | ok full stF =>
        rw [e3] at h
        simp only [R.bind_ok] at h
        unfold dttV at h
        cases et : trips full with
        | none => rw [et] at h; exact h.elim
        | some qq =>
        rw [et] at h
        dsimp only at h
        by_cases hz : qq.1.Nodup ∧ szOk qq.1.length = true
        rotate_left
        · rw [if_neg hz] at h; exact h.elim
        rw [if_pos hz] at h
        obtain ⟨hnd, hz⟩ := hz
        have hz' := szOk_le hz
        have nS : ¬ ω1.S D := fun z => by obtain ⟨o, q⟩ := c1.trk D z; rw [hD] at q; cases q
        have nC : D ∉ ω1.cs := fun z => by obtain ⟨o, q⟩ := c1.lstAt z; rw [hD] at q; cases q
        refine ⟨fun i m H => m = xs.length - i ∧ i ≤ xs.length ∧ Dc2 K ω1 H1 D (turnD2 Φ k1 k2 v tg tg2 it2 own own2 ρ) xs full stF i H, ⟨xs.length, by simp, Nat.zero_le _, ⟨ω1, s, [], [], full, (Grow.upd hD).toE, c1.grow (Grow.upd hD), ⟨upd_same, nS, nC⟩, ⟨[], rfl, .nil⟩, e3, rfl⟩⟩, ?_⟩
        rintro i m H2 ⟨rfl, hi, ⟨ω2, st2, vs, ys, rest, x2, c2, A2, r2, e4, e5⟩⟩
        obtain ⟨go, stop, yld⟩ := hJ ω2 H2 (x2.ext c1) (fun _ => x2)
        rcases Nat.lt_or_ge i xs.length with hlt | hge
        rotate_left
        · have ei : i = xs.length := by omega
          subst ei
          rw [List.drop_length] at e4
          cases e4
          rw [List.append_nil] at e5
          subst e5
          obtain ⟨ts, h1, h2⟩ := r2.ex
          rw [et] at h1
          cases h1
          have xa : Ext ω2 H2 (ω2.add D) H2 := ⟨fun _ z => .inl z, ⟨[], by simp [Wd.add]⟩, fun _ _ z _ => z⟩
          have x12 := x1.trans x2
          refine .inl ⟨stop, h _ _ (ω2.add D) ⟨fun a z => .inl (x12.sub a z), x12.cs, x12.keep, fun a z => ?_, x12.newC, x12.there⟩ (c2.add A2.nC A2.at_) (.inl (.dtt (.inr rfl) A2.at_ (h2.mono xa)))⟩
          rcases z with z | rfl
          · exact x12.newS a z
          · exact .inr (x1.none hD)
        · refine .inr ⟨go i hlt, fun H' => i + 1 ≤ xs.length ∧ Dc2 K ω1 H1 D (turnD2 Φ k1 k2 v tg tg2 it2 own own2 ρ) xs full stF (i + 1) H', fun H' hN => ⟨xs.length - (i + 1), by omega, rfl, hN.1, hN.2⟩, fun x H3 hy => ?_⟩
          obtain ⟨ω3, t, w3, ex, rx⟩ := yld i x H3 hlt hy
          have A3 : AptD D vs ω3 H3 := A2.grow w3
          have rel3 : Rel K g ω3 ρ st2 σ H3 := (((rel.extE x1 c1).extE x2 c2)).grow w3
          have x3 : ExtE ω1 H1 ω3 H3 := x2.trans w3.toE
          have r3 := r2.mono w3.ext
          rw [drop_cons ex] at e4
          unfold flatL at e4
          cases ea : assignT tg t (wipeE ρ own) with
          | none => unfold turnD2 at e4; rw [ea] at e4; cases e4
          | some ρ1 =>
            have ef : turnD2 Φ k1 k2 v tg tg2 it2 own own2 ρ t st2 = (ev Φ it2 ρ1 st2).bind fun iv2 st => (match itemsOf iv2 with
              | some ys => compL (turnD Φ k1 k2 v tg2 own2 ρ1) ys st
              | none => .bad) := by unfold turnD2; rw [ea]
            rw [ef] at e4
            refine gAsg_ok2 hn (rel3.wipe own) rx ea fun ws tgo relT => ⟨wipe_tgS hsub, ?_⟩
            -- the second clause
            refine ⟨g, ω3, ρ1, st2, relT, ?_⟩
            cases ei2 : ev Φ it2 ρ1 st2 with
            | bad => rw [ei2] at e4; cases e4
            | exc x4 s4 => rw [ei2] at e4; cases e4
            | ok iv2 s4 =>
              rw [ei2] at e4
              simp only [R.bind_ok] at e4
              cases ej : itemsOf iv2 with
              | none => rw [ej] at e4; cases e4
              | some zs =>
                rw [ej] at e4
                dsimp only at e4
                refine ⟨zs, ej, fun J1 H4 ω4 x4 c4 hJ1 => ?_⟩
                cases ec : compL (turnD Φ k1 k2 v tg2 own2 ρ1) zs s4 with
                | bad => rw [ec] at e4; cases e4
                | exc x5 s5 => exact absurd ec (compL_noexc zs s4)
                | ok more s5 =>
                  rw [ec] at e4
                  dsimp only at e4
                  cases er : flatL (turnD2 Φ k1 k2 v tg tg2 it2 own own2 ρ) (xs.drop (i + 1)) s5 with
                  | bad => rw [er] at e4; cases e4
                  | exc x6 s6 => exact absurd er (flatL_noexc _ _)
                  | ok rest' s6 =>
                    rw [er] at e4
                    cases e4
                    have A4 := A3.extE x4
                    have r4 := r3.mono (x4.ext relT.cells)
                    have x14 : ExtE ω1 H1 ω4 H4 := x3.trans x4
                    refine ⟨fun j k H => k = zs.length - j ∧ j ≤ zs.length ∧ Dc3 K ω1 H1 ω4 H4 D (turnD Φ k1 k2 v tg2 own2 ρ1) zs (ys ++ more) s5 j H, ⟨zs.length, by simp, Nat.zero_le _, ⟨ω4, s4, vs, ys, more, Ext.refl _ _, x14, c4, A4, r4, ec, rfl⟩⟩, ?_⟩
                    rintro j k H5 ⟨rfl, hj, ⟨ω5, st5, vs5, ys5, rest5, x5, x15, c5, A5, r5, e7, e8⟩⟩
                    obtain ⟨go1, stop1, yld1⟩ := hJ1 ω5 H5 x5 (fun z => by cases z)
                    rcases Nat.lt_or_ge j zs.length with hlt1 | hge1
                    rotate_left
                    · have ej2 : j = zs.length := by omega
                      subst ej2
                      rw [List.drop_length] at e7
                      cases e7
                      rw [List.append_nil] at e8
                      refine .inl ⟨stop1, hlt, ⟨ω5, s5, vs5, ys5, rest', x15, c5, A5, r5, er, ?_⟩⟩
                      rw [← e8, e5, List.append_assoc]
                    · refine .inr ⟨go1 j hlt1, fun H' => j + 1 ≤ zs.length ∧ Dc3 K ω1 H1 ω4 H4 D (turnD Φ k1 k2 v tg2 own2 ρ1) zs (ys ++ more) s5 (j + 1) H', fun H' hN => ⟨zs.length - (j + 1), by omega, rfl, hN.1, hN.2⟩, fun y H6 hy1 => ?_⟩
                      obtain ⟨ω6, u, w6, ex6, ry⟩ := yld1 j y H6 hlt1 hy1
                      have A6 : AptD D vs5 ω6 H6 := A5.grow w6
                      have x46 : Ext ω4 H4 ω6 H6 := x5.trans w6.ext
                      have x16 : ExtE ω1 H1 ω6 H6 := x15.trans w6.toE
                      have rel6 : Rel K g ω6 ρ1 st5 (tgS (L2.wipe σ own) tg x ws) H6 := tg_rel ((((rel.extE x1 c1).extE x15 c5).grow w6).wipe own) (tgo.mono ((x4.ext relT.cells).trans x46)) hn ea
                      have r6 := r5.mono w6.ext
                      rw [drop_cons ex6] at e7
                      unfold compL at e7
                      cases eb : assignT tg2 u (wipeE ρ1 own2) with
                      | none => unfold turnD at e7; rw [eb] at e7; cases e7
                      | some ρ2 =>
                        have ef2 : turnD Φ k1 k2 v tg2 own2 ρ1 u st5 = (ev Φ k1 ρ2 st5).bind fun a st => (ev Φ k2 ρ2 st).bind fun b st => (ev Φ v ρ2 st).bind fun z st => .ok (some (.tup [a, b, z])) st := by unfold turnD; rw [eb]
                        rw [ef2] at e7
                        refine gAsg_ok (rel6.wipe own2) ry eb fun ws2 relU => ⟨wipe_tgS hsub2, ?_⟩
                        refine ⟨g, ω6, ρ2, st5, relU, ?_⟩
                        cases ek1 : ev Φ k1 ρ2 st5 with
                        | bad => rw [ek1] at e7; cases e7
                        | exc x7 s7 => rw [ek1] at e7; cases e7
                        | ok ta s7 =>
                          rw [ek1] at e7
                          simp only [R.bind_ok] at e7
                          intro v1 H7 ω7 x7 c7 p7
                          have rel7 := relU.extE x7 c7
                          refine ⟨g, ω7, ρ2, s7, rel7, ?_⟩
                          cases ek2 : ev Φ k2 ρ2 s7 with
                          | bad => rw [ek2] at e7; cases e7
                          | exc x8 s8 => rw [ek2] at e7; cases e7
                          | ok tb s8 =>
                            rw [ek2] at e7
                            simp only [R.bind_ok] at e7
                            intro v2 H8 ω8 x8 c8 p8
                            have rel8 := rel7.extE x8 c8
                            refine ⟨by show 2 ≤ sizeLine; rw [sizeLine_eq]; omega, fun p0 hp0 => ?_⟩
                            have wp : Grow ω8 H8 ω8 (upd H8 p0 (.tup [v1, v2])) := Grow.upd hp0
                            have rel9 := rel8.grow wp
                            refine ⟨g, ω8, ρ2, s8, rel9, ?_⟩
                            cases ekv : ev Φ v ρ2 s8 with
                            | bad => rw [ekv] at e7; cases e7
                            | exc x9 s9 => rw [ekv] at e7; cases e7
                            | ok tz s9 =>
                              rw [ekv] at e7
                              simp only [R.bind_ok] at e7
                              intro vz H10 ω10 x10 c10 p10
                              cases e9 : compL (turnD Φ k1 k2 v tg2 own2 ρ1) (zs.drop (j + 1)) s9 with
                              | bad => rw [e9] at e7; cases e7
                              | exc x9 s9 => exact absurd e9 (compL_noexc _ _)
                              | ok restj s10 =>
                                rw [e9] at e7
                                cases e7
                                have A10 := (((A6.extE x7).extE x8).grow wp).extE x10
                                have x610 : Ext ω6 H6 ω10 H10 := (((x7.ext relU.cells).trans (x8.ext c7)).trans wp.ext).trans (x10.ext rel9.cells)
                                have r10 := r6.mono x610
                                have x410 : Ext ω4 H4 ω10 H10 := x46.trans x610
                                have x110 : ExtE ω1 H1 ω10 H10 := (((x16.trans x7).trans x8).trans wp.toE).trans x10
                                -- the key
                                have np : p0 ∉ ω8.cs := fun z => by obtain ⟨o, q⟩ := c8.lstAt z; rw [hp0] at q; cases q
                                have hp10 : H10 p0 = some (.tup [v1, v2]) := x10.keep _ _ upd_same np
                                obtain ⟨ts5, t1, t2⟩ := r10.ex
                                have hfull : full = ys5 ++ (.tup [ta, tb, tz] :: (restj ++ rest')) := by
                                  rw [e5, ← List.append_assoc, e8]; simp
                                have et' := et
                                rw [hfull] at et'
                                obtain ⟨pa, pb, h1, h2, hq⟩ := trips_app et'
                                rw [t1] at h1
                                cases h1
                                unfold trips at h2
                                split at h2
                                · rename_i p1 q1 f1 f2
                                  cases h2
                                  obtain ⟨ka, kb, f3, f4, rfl⟩ := trip_of f1
                                  subst hq
                                  have ev1 : v1 = kV ka := keyP_v p7 f3
                                  have ev2 : v2 = kV kb := keyP_v p8 f4
                                  have hnk : [ka, kb] ∉ vs5.map (·.1) := fun z => by
                                    have := List.nodup_append.mp hnd
                                    exact this.2.2 _ z _ List.mem_cons_self rfl
                                  have up := extUpd' (ω := ω10) (o := .dT (vs5 ++ [([ka, kb], vz)])) A10.at_ id A10.nS
                                  refine ⟨vs5, [ka, kb], p0, rfl, by rw [hp10, ev1, ev2]; rfl, A10.at_, ?_, ?_⟩
                                  · simp only [List.length_append, List.length_cons] at hz'
                                    have := (List.length_map (as := vs5) (·.1))
                                    omega
                                  · rw [putK_new hnk]
                                    refine ⟨hlt1, ⟨ω10, s9, vs5 ++ [([ka, kb], vz)], ys5 ++ [.tup [ta, tb, tz]], restj, x410.trans up, x110.updNew hD, c10.upd' A10.at_ id A10.nS A10.nC, ⟨upd_same, A10.nS, A10.nC⟩, ⟨ts5 ++ [tz], ?_, ?_⟩, e9, by rw [e8]; simp⟩⟩
                                    · have tt : ∀ {xs : List PV} {p : List (List Key) × List PV}, trips xs = some p → trips (xs ++ [.tup [ta, tb, tz]]) = some (p.1 ++ [[ka, kb]], p.2 ++ [tz]) := by
                                        intro xs
                                        induction xs with
                                        | nil =>
                                          intro p hp
                                          cases hp
                                          show trips [_] = _
                                          unfold trips trips
                                          rw [f1]
                                          rfl
                                        | cons x xs ih =>
                                          intro p hp
                                          unfold trips at hp
                                          split at hp
                                          · rename_i p2 q2 g1 g2
                                            cases hp
                                            rw [List.cons_append]
                                            unfold trips
                                            rw [g1, ih g2]
                                            rfl
                                          · cases hp
                                      rw [tt t1]
                                      simp
                                    · rw [List.map_append]
                                      exact (t2.mono up).append (.cons (p10.rep.mono up) .nil)
                                · cases h2
theorem se_dcomp2 {Φ : Nat → List PV → Cel → R PV} {k1 k2 v : C} {tg tg2 own own2 : List Nat} {it it2 : C} {bz : Bool} (hpe : PE X e (Dc.tDc2 (ti X.K true W (ev Φ it)) (gAsg X.K tg) (ti X.K false W0 (ev Φ it2)) (gAsg X.K tg2) (tTup (tCons (tv X.K false W0 (ev Φ k1)) (tCons (tv X.K false W0 (ev Φ k2)) tNil))) (tv X.K false W0 (ev Φ v)) own own2)) (hn : nested tg = false) (hsub : ownOk tg own = true) (hsub2 : ownOk tg2 own2 = true) :
    PE X e (tv X.K bz W (ev Φ (.dcomp2 k1 k2 v tg it tg2 it2 own own2))) := wPE hpe (dcomp2_w hn hsub hsub2)
end
end Ev
namespace Ev
open PySem L2
/-! ### views of the syntax -/
def asName : Expr → Option Str
  | .Name x _ => some x
  | _ => none
def asConst : Expr → Option Const
  | .Constant c _ _ => some c
  | _ => none
def asBin : Expr → Option (Expr × Operator × Expr)
  | .BinOp l o r _ => some (l, o, r)
  | _ => none
def asUn : Expr → Option (UnaryOp × Expr)
  | .UnaryOp o x _ => some (o, x)
  | _ => none
def asBool : Expr → Option (BoolOp × List Expr × Pos)
  | .BoolOp o xs p => some (o, xs, p)
  | _ => none
def asCmp : Expr → Option (Expr × CmpOp × Expr)
  | .Compare l [o] [r] _ => some (l, o, r)
  | _ => none
def asIf : Expr → Option (Expr × Expr × Expr)
  | .IfExp c a b _ => some (c, a, b)
  | _ => none
def asTup : Expr → Option (List Expr)
  | .Tuple es _ _ => some es
  | _ => none
def asLst : Expr → Option (List Expr)
  | .List es _ => some es
  | _ => none
def asCall : Expr → Option (Str × List Expr)
  | .Call (.Name x _) es [] _ => some (x, es)
  | _ => none
def asSub : Expr → Option (Expr × Expr)
  | .Subscript a i _ => some (a, i)
  | _ => none
def asSlice : Expr → Option (Option Expr × Option Expr × Option Expr)
  | .Slice a b c _ => some (a, b, c)
  | _ => none
def asLc : Expr → Option (Expr × Expr × Expr × List Expr × Scope)
  | .ListComp elt [⟨tg, it, ifs, 0⟩] sc _ => some (elt, tg, it, ifs, sc)
  | _ => none
def asDct : Expr → Option (List (Option Expr) × List Expr × Pos)
  | .Dict ks vs p => some (ks, vs, p)
  | _ => none
def asCmp2 : Expr → Option (Expr × CmpOp × Expr × CmpOp × Expr)
  | .Compare l [o, o'] [m, r] _ => some (l, o, m, o', r)
  | _ => none
def asLc2 : Expr → Option (Expr × (Expr × Expr) × (Expr × Expr × List Expr) × Scope)
  | .ListComp elt [⟨tg, it, [], 0⟩, ⟨tg2, it2, ifs, 0⟩] sc _ => some (elt, (tg, it), (tg2, it2, ifs), sc)
  | _ => none
/-- zip(a, b, strict=True) -/
def asZs : Expr → Option (Expr × Expr)
  | .Call (.Name x _) [a, b] [⟨some k, .Constant (.bool true) _ _, _⟩] _ => if decide (x = ("zip" : Str)) && decide (k = Zs.sK) then some (a, b) else none
  | _ => none
def asDc2 : Expr → Option ((Expr × Expr × Expr) × (Expr × Expr) × (Expr × Expr) × Scope)
  | .DictComp (.Tuple [k1, k2] _ _) v [⟨tg, it, [], 0⟩, ⟨tg2, it2, [], 0⟩] sc _ => some ((k1, k2, v), (tg, it), (tg2, it2), sc)
  | _ => none
def asFstr : Expr → Option (List Expr)
  | .JoinedStr vs _ => some vs
  | _ => none
def asFmt : Expr → Option Expr
  | .FormattedValue e (-1) none _ => some e
  | _ => none
/-- e[::-1] -/
def asRev : Expr → Option Expr
  | .Subscript e (.Slice none none (some (.UnaryOp .USub (.Constant (.int 1) _ _) _)) _) _ => some e
  | _ => none
/-- x.name(e), on one line -/
def asMeth : Expr → Option (Expr × Str × Expr)
  | .Call (.Attribute o n ap) [x] [] cp => if ap.endLine == cp.line then some (o, n, x) else none
  | _ => none
/-- what a method may be asked of, as it stands -/
def plainO : Expr → Bool
  | .Name .. => true
  | .Constant .. => true
  | .Call _ (_ :: _) _ _ => true
  | .Subscript .. => true
  | .List .. => true
  | .Tuple .. => true
  | .Dict .. => true
  | .ListComp .. => true
  | _ => false
def asAtt : Expr → Option (Expr × Str)
  | .Attribute o n _ => some (o, n)
  | _ => none
/-- o.m(..), on one line -/
def asMth : Expr → Option (Expr × Str × List Expr)
  | .Call (.Attribute o n ap) xs [] cp => if ap.endLine == cp.line then some (o, n, xs) else none
  | _ => none
/-- f(k = v, ..) -/
def asCallK : Expr → Option (Str × List Keyword)
  | .Call (.Name x _) [] kws _ => some (x, kws)
  | _ => none
def kwNm (kws : List Keyword) : List (Option Str) := kws.map (·.arg)
def asStar : Expr → Option Expr
  | .Starred e _ => some e
  | _ => none
def isSet : Expr → Bool
  | .Set .. => true
  | _ => false
/-- a test is read by its value -/
def plainT : Expr → Bool
  | .UnaryOp .Not _ _ => false
  | .BoolOp .. => false
  | .IfExp .. => false
  | .Compare .. => false
  | _ => true
section
variable {e : Expr}
theorem asDct_eq {ks : List (Option Expr)} {vs : List Expr} {p : Pos} (h : asDct e = some (ks, vs, p)) : e = .Dict ks vs p := by
  cases e <;> first | (simp [asDct] at h; done) | (cases h; rfl)
theorem asMeth_eq {e o x : Expr} {n : Str} (h : asMeth e = some (o, n, x)) : ∃ ap cp, e = .Call (.Attribute o n ap) [x] [] cp ∧ (ap.endLine == cp.line) = true := by
  unfold asMeth at h
  split at h
  · split at h
    · rename_i hz; cases h; exact ⟨_, _, rfl, hz⟩
    · cases h
  · cases h
theorem plainO_of {n : Str} {env : Env} (h : plainO e = true) : attributeBase e n env (eval e env) = eval e env := by
  cases e <;> first
    | rfl
    | (simp [plainO] at h; done)
    | (rename_i f as kws p
       cases as with
       | nil => simp [plainO] at h
       | cons x xs => cases f <;> rfl)
theorem asName_eq {x : Str} (h : asName e = some x) : ∃ p, e = .Name x p := by
  cases e <;> first | (simp [asName] at h; done) | (cases h; exact ⟨_, rfl⟩)
theorem asConst_eq {x : Const} (h : asConst e = some x) : ∃ k p, e = .Constant x k p := by
  cases e <;> first | (simp [asConst] at h; done) | (cases h; exact ⟨_, _, rfl⟩)
theorem asBin_eq {l r : Expr} {o : Operator} (h : asBin e = some (l, o, r)) : ∃ p, e = .BinOp l o r p := by
  cases e <;> first | (simp [asBin] at h; done) | (cases h; exact ⟨_, rfl⟩)
theorem asUn_eq {l : Expr} {o : UnaryOp} (h : asUn e = some (o, l)) : ∃ p, e = .UnaryOp o l p := by
  cases e <;> first | (simp [asUn] at h; done) | (cases h; exact ⟨_, rfl⟩)
theorem asBool_eq {l : List Expr} {o : BoolOp} {p : Pos} (h : asBool e = some (o, l, p)) : e = .BoolOp o l p := by
  cases e <;> first | (simp [asBool] at h; done) | (cases h; rfl)
theorem asCmp_eq {l r : Expr} {o : CmpOp} (h : asCmp e = some (l, o, r)) : ∃ p, e = .Compare l [o] [r] p := by
  unfold asCmp at h
  split at h
  · cases h; exact ⟨_, rfl⟩
  · cases h
theorem asIf_eq {a b c : Expr} (h : asIf e = some (c, a, b)) : ∃ p, e = .IfExp c a b p := by
  cases e <;> first | (simp [asIf] at h; done) | (cases h; exact ⟨_, rfl⟩)
theorem asTup_eq {l : List Expr} (h : asTup e = some l) : ∃ k p, e = .Tuple l k p := by
  cases e <;> first | (simp [asTup] at h; done) | (cases h; exact ⟨_, _, rfl⟩)
theorem asLst_eq {l : List Expr} (h : asLst e = some l) : ∃ p, e = .List l p := by
  cases e <;> first | (simp [asLst] at h; done) | (cases h; exact ⟨_, rfl⟩)
theorem asCall_eq {x : Str} {l : List Expr} (h : asCall e = some (x, l)) : ∃ q p, e = .Call (.Name x q) l [] p := by
  unfold asCall at h
  split at h
  · cases h; exact ⟨_, _, rfl⟩
  · cases h
theorem asSub_eq {a i : Expr} (h : asSub e = some (a, i)) : ∃ p, e = .Subscript a i p := by
  cases e <;> first | (simp [asSub] at h; done) | (cases h; exact ⟨_, rfl⟩)
theorem asSlice_eq {a b c : Option Expr} (h : asSlice e = some (a, b, c)) : ∃ p, e = .Slice a b c p := by
  cases e <;> first | (simp [asSlice] at h; done) | (cases h; exact ⟨_, rfl⟩)
theorem asLc_eq {elt tg it : Expr} {ifs : List Expr} {sc : Scope} (h : asLc e = some (elt, tg, it, ifs, sc)) : ∃ p, e = .ListComp elt [⟨tg, it, ifs, 0⟩] sc p := by
  unfold asLc at h
  split at h
  · cases h; exact ⟨_, rfl⟩
  · cases h
theorem asCmp2_eq {l m r : Expr} {o o' : CmpOp} (h : asCmp2 e = some (l, o, m, o', r)) : ∃ p, e = .Compare l [o, o'] [m, r] p := by
  unfold asCmp2 at h
  split at h
  · cases h; exact ⟨_, rfl⟩
  · cases h
theorem asLc2_eq {elt tg it tg2 it2 : Expr} {ifs : List Expr} {sc : Scope} (h : asLc2 e = some (elt, (tg, it), (tg2, it2, ifs), sc)) : ∃ p, e = .ListComp elt [⟨tg, it, [], 0⟩, ⟨tg2, it2, ifs, 0⟩] sc p := by
  unfold asLc2 at h
  split at h
  · cases h; exact ⟨_, rfl⟩
  · cases h
theorem asZs_eq {a b : Expr} (h : asZs e = some (a, b)) : ∃ p kp ck cp pos, e = .Call (.Name "zip" p) [a, b] [⟨some Zs.sK, .Constant (.bool true) ck cp, kp⟩] pos := by
  unfold asZs at h
  split at h
  · split at h
    · rename_i hz
      cases h
      simp only [Bool.and_eq_true, decide_eq_true_eq] at hz
      obtain ⟨rfl, rfl⟩ := hz
      exact ⟨_, _, _, _, _, rfl⟩
    · cases h
  · cases h
theorem asDc2_eq {k1 k2 v tg it tg2 it2 : Expr} {sc : Scope} (h : asDc2 e = some ((k1, k2, v), (tg, it), (tg2, it2), sc)) : ∃ kk tp p, e = .DictComp (.Tuple [k1, k2] kk tp) v [⟨tg, it, [], 0⟩, ⟨tg2, it2, [], 0⟩] sc p := by
  unfold asDc2 at h
  split at h
  · cases h; exact ⟨_, _, _, rfl⟩
  · cases h
theorem asFstr_eq {vs : List Expr} (h : asFstr e = some vs) : ∃ p, e = .JoinedStr vs p := by
  cases e <;> first | (simp [asFstr] at h; done) | (cases h; exact ⟨_, rfl⟩)
theorem asFmt_eq {x : Expr} (h : asFmt e = some x) : ∃ p, e = .FormattedValue x (-1) none p := by
  unfold asFmt at h
  split at h
  · cases h; exact ⟨_, rfl⟩
  · cases h
theorem asRev_eq {x : Expr} (h : asRev e = some x) : ∃ k p1 p2 p3 pos, e = .Subscript x (.Slice none none (some (.UnaryOp .USub (.Constant (.int 1) k p1) p2)) p3) pos := by
  unfold asRev at h
  split at h
  · cases h; exact ⟨_, _, _, _, _, rfl⟩
  · cases h
theorem asAtt_eq {o : Expr} {n : Str} (h : asAtt e = some (o, n)) : ∃ p, e = .Attribute o n p := by
  cases e <;> first | (simp [asAtt] at h; done) | (cases h; exact ⟨_, rfl⟩)
theorem asMth_eq {o : Expr} {n : Str} {xs : List Expr} (h : asMth e = some (o, n, xs)) : ∃ ap cp, e = .Call (.Attribute o n ap) xs [] cp ∧ (ap.endLine == cp.line) = true := by
  unfold asMth at h
  split at h
  · split at h
    · rename_i hz; cases h; exact ⟨_, _, rfl, hz⟩
    · cases h
  · cases h
theorem asCallK_eq {x : Str} {kws : List Keyword} (h : asCallK e = some (x, kws)) : ∃ q p, e = .Call (.Name x q) [] kws p := by
  unfold asCallK at h
  split at h
  · cases h; exact ⟨_, _, rfl⟩
  · cases h
theorem asStar_eq {x : Expr} (h : asStar e = some x) : ∃ p, e = .Starred x p := by
  cases e <;> first | (simp [asStar] at h; done) | (cases h; exact ⟨_, rfl⟩)
theorem starEach_plain {es : List Expr} {env : Env} (h : asStar e = none) : starEach (e :: es) env = (false, eval e env) :: starEach es env := by
  cases e <;> first | rfl | (simp [asStar] at h)
theorem plainIx_of (h : asSlice e = none) : PlainIx e := by
  intro o i
  cases e <;> first | rfl | (simp [asSlice] at h)
theorem fsi_of {env : Env} (h : isSet e = false) : ∀ x, foldedSetIterable e env x = pure x := by
  intro x
  cases e <;> first | rfl | (simp [isSet] at h)
theorem marks_of {op : CmpOp} (h : isSet e = false) : behindInMarks op e = false := by
  cases e <;> first | rfl | (simp [isSet] at h)
theorem isTrue_of {env : Env} (h : plainT e = true) : ∀ whole, isTrue e env whole = (do let v ← whole; standAt e.pos; holding [v] (truthy v)) := by
  intro whole
  cases e <;> first
    | rfl
    | (simp [plainT] at h; done)
    | (rename_i op x p; cases op <;> first | rfl | (simp [plainT] at h; done))
end
def noStars (es : List Expr) : Bool := es.all fun e => (asStar e).isNone
theorem noStars_any {env : Env} {pos : Pos} : ∀ {es : List Expr}, noStars es = true → (backTo pos (starEach es env)).any (·.1) = false
  | [], _ => rfl
  | e :: es, h => by
    unfold noStars at h
    rw [List.all_cons, Bool.and_eq_true] at h
    have h1 : asStar e = none := by simpa using h.1
    rw [starEach_plain h1]
    have ih := noStars_any (env := env) (pos := pos) (es := es) h.2
    unfold backTo at ih ⊢
    rw [List.map_cons, List.any_cons, ih]
    rfl
end Ev
set_option maxHeartbeats 1000000
/-! if and for within a generator -/
namespace Gn
open PySem PySem.Spec PyProof.Rows L2 GenW
section
variable {X : Cx}
def tGIf (tc : TT) (ta tb : TGn) : TGn := fun D ys σ H => tc σ H fun b H1 => if b = true then ta D ys σ H1 else tb D ys σ H1
theorem gs_if {test : Expr} {body orelse : List Stmt} {pos : Pos} {tc : TT} {ta tb : TGn} (hc : PT X test tc) (ha : GSs X body ta) (hb : GSs X orelse tb) : GS X (.If test body orelse pos) (tGIf tc ta tb) := by
  refine ⟨fun A S ip R n ys a0 c fs K J gd lv s σ H D g hn k hI ht => ?_⟩
  rw [exec_If]
  show Seg _ _ _ _ _ _ _ (.at pos fun _ => ((isTrue test X.env (eval test X.env)) >>= fun b => if b = true then execs body X.env else execs orelse X.env).wrap K J gd lv) fs s
  refine seg_at ?_
  rw [Sem.bind_eq_wrap', Sem.wrap_wrap]
  refine seg_wrap ?_
  rw [g.over]
  obtain ⟨acc, cc, r, I⟩ := hI
  refine wpAny_mono (hc.run _ s σ H _ I ht) (fun b s' hb' => ?_) fun x s' hx => k.exc n a0 x s' hx
  obtain ⟨H2, I2, q2⟩ := hb'
  cases b with
  | true =>
    rw [if_pos rfl] at q2
    exact ha.run A S ip R n ys a0 c fs K J gd lv s' σ H2 D g hn k ⟨acc, cc, r, I2⟩ q2
  | false =>
    rw [if_neg Bool.false_ne_true] at q2
    exact hb.run A S ip R n ys a0 c fs K J gd lv s' σ H2 D g hn k ⟨acc, cc, r, I2⟩ q2
/-- behind an exception of the loop's own code -/
abbrev noted (env : Env) (x : Value) : Sem PySem.Fin := (do noteFrame x env; theTreesLotGoes x : Sem Unit).wrap (fun _ => .raise x) .raise id id
theorem seg_forLoop {prog : Program} {w : World} {A : Around} {R : GenEnd} {Y : Protocol} {n : Nat} {a0 : Shared} {fs : List Frame} {s : Shared} {env : Env} {tg : Expr} {it : Value} {body : List Stmt}
    (h : wpAny (model prog w) (A.over (.forLoop tg it body [] env) fs) (pyNext it) (fun r s1 => match r with
      | none => Seg (model prog w) A R Y n a0 (.forLoop tg it body [] env) (.pure (.again (.block [] env))) fs s1
      | some v => wpAny (model prog w) (A.over (.forLoop tg it body [] env) fs) (letOwnedTupleGo tg it v) (fun _ s2 => wpAny (model prog w) (A.over (.forLoop tg it body [] env) fs) (assign tg env v) (fun _ s3 =>
          Seg (model prog w) A R Y n a0 (.forLoop tg it body [] env) ((execs body env).wrap (fun f => match f with
            | .next | .cont => .pure (.again (.forLoop tg it body [] env))
            | .brk => .pure (.done .next)
            | .ret v => .pure (.done (.ret v))) (noted env) id id) fs s3)
          (fun x z => Seg (model prog w) A R Y n a0 (.forLoop tg it body [] env) (noted env x) fs z) s2) (fun x z => Seg (model prog w) A R Y n a0 (.forLoop tg it body [] env) (noted env x) fs z) s1) (fun x z => Seg (model prog w) A R Y n a0 (.forLoop tg it body [] env) (noted env x) fs z) s) :
    Seg (model prog w) A R Y n a0 (.forLoop tg it body [] env) ((model prog w).den (.forLoop tg it body [] env)) fs s := by
  show Seg _ A R Y n a0 _ ((forTurn tg it body [] env).onRaise (fun x => do noteFrame x env; theTreesLotGoes x)) fs s
  unfold forTurn
  rw [Sem.onRaise_eq_wrap, Sem.bind_eq_wrap', Sem.wrap_wrap]
  refine seg_wrap (wpAny_standAt ?_)
  rw [Sem.bind_eq_wrap', Sem.wrap_wrap]
  refine seg_wrap (wpAny_onRaise (wpAny_mono h (fun r s1 h1 => ?_) fun x z hx => wpAny_standAt ?_))
  · cases r with
    | none => exact h1
    | some v =>
      dsimp only at h1 ⊢
      rw [Sem.bind_eq_wrap', Sem.wrap_wrap]
      refine seg_wrap (wpAny_mono h1 (fun _ s2 h2 => ?_) fun x z hx => ?_)
      · rw [Sem.bind_eq_wrap', Sem.wrap_wrap]
        refine seg_wrap (wpAny_mono h2 (fun _ s3 h3 => ?_) fun x z hx => ?_)
        · rw [Sem.bind_eq_wrap', Sem.wrap_wrap]
          rw [Sem.wrap_congr (execs body env) _ _ (K' := fun f => match f with
            | .next | .cont => .pure (.again (.forLoop tg it body [] env))
            | .brk => .pure (.done .next)
            | .ret v => .pure (.done (.ret v))) (H' := noted env) (fun f => by cases f <;> rfl)
            (fun e => by first | exact Sem.bind_eq_wrap _ _ | (show (do noteFrame e env; theTreesLotGoes e : Sem Unit).bind (fun _ => .raise e) = _; rw [Sem.bind_eq_wrap]))]
          exact h3
        · show Seg _ A R Y n a0 _ ((do noteFrame x env; theTreesLotGoes x : Sem Unit).bind fun _ => .raise x) fs z
          rw [Sem.bind_eq_wrap]; exact hx
      · show Seg _ A R Y n a0 _ ((do noteFrame x env; theTreesLotGoes x : Sem Unit).bind fun _ => .raise x) fs z
        rw [Sem.bind_eq_wrap]; exact hx
  · show Seg _ A R Y n a0 _ ((do noteFrame x env; theTreesLotGoes x : Sem Unit).bind fun _ => .raise x) fs z
    rw [Sem.bind_eq_wrap]; exact hx
/-- for tg in iter: body -/
def tGFor (wi : TI) (g : TG) (tb : TGn) : TGn := fun D ys σ H => wi σ H fun J H1 => ∃ W : Nat → Nat → List V → L2.St → Hp → Prop, (∃ m, W 0 m ys σ H1) ∧ ∀ i m ys σ H, W i m ys σ H →
  (J.stop i H ∧ D.nx ys σ H) ∨ (J.go i H ∧ ∃ N : List V → L2.St → Hp → Prop, (∀ ys' σ' H', N ys' σ' H' → ∃ m', m' < m ∧ W (i + 1) m' ys' σ' H') ∧ ∀ x H', J.yld i H x H' → g x σ H' fun σ2 H2 => tb { D with nx := N, ct := N, bk := D.nx } ys σ2 H2)
theorem gs_for {tg iter : Expr} {body : List Stmt} {wi : TI} {g : TG} {tb : TGn} {pos : Pos} (hp : PassesOwn (model X.prog X.w) X.A X.env X.xe) (hc : X.calm = true) (hi : PI X tg iter wi) (hg : PG X tg g) (hb : GSs X body tb)
    (hs : ∀ x, foldedSetIterable iter X.env x = pure x) : GS X (.For tg iter body [] pos) (tGFor wi g tb) := by
  refine ⟨fun A S ip R n ys a0 c fs K J gd lv s σ H D gc hn k hI ht => ?_⟩
  obtain ⟨acc, cc, r, I⟩ := hI
  rw [exec_For]
  show Seg _ _ _ _ _ _ _ (.at pos fun _ => (eval iter X.env >>= fun x0 => foldedSetIterable iter X.env x0 >>= fun x => standAt iter.pos >>= fun _ => holding [x] (pyIter x) >>= fun it => runOwn (.forLoop tg it body [] X.env) X.env).wrap K J gd lv) fs s
  refine seg_at ?_
  rw [Sem.bind_eq_wrap', Sem.wrap_wrap]
  refine seg_wrap ?_
  rw [gc.over]
  refine wpAny_mono (hi.run _ s σ H _ I ht) (fun v s1 h1 => ?_) fun x z hx => k.exc n a0 x z hx
  rw [hs v]
  show Seg _ _ _ _ _ _ _ (.at iter.pos fun _ => (holding [v] (pyIter v) >>= fun it => runOwn (.forLoop tg it body [] X.env) X.env).wrap K J gd lv) fs s1
  refine seg_at ?_
  rw [Sem.bind_eq_wrap', Sem.wrap_wrap]
  refine seg_wrap ?_
  rw [gc.over]
  refine wpAny_holding (wpAny_mono h1 (fun itv s2 h2 => ?_) fun x z hx => k.exc n a0 x z hx)
  obtain ⟨it, fp, tn, JJ, H2, rfl, I2, T, st2, f2, W, ⟨m0, w0⟩, turn⟩ := h2
  refine seg_call fun p => ?_
  have gl := fun (kk : Result → Sem PySem.Fin) => gc_loop (k := kk) (c' := .forLoop tg (.ref it) body [] X.env) (l := lv []) (kp := []) (p := p) gc rfl rfl
  have fpS : ∀ b ∈ fp, b ≠ S := fun b hb z => (f2 b hb).2.2.2.2.2 (S, lstObj acc cc) (List.mem_append_right _ List.mem_cons_self) z.symm
  have stat : ∀ {H' : Hp} {acc' : Array Value} {c' : Nat}, (∀ b ∈ fp, H' b = none) → ∀ b ∈ fp, FpOk X ((S, lstObj acc' c') :: ip) H' b := fun hz b hb => by
    obtain ⟨_, q1, q2, q3, q4, q5⟩ := f2 b hb
    refine ⟨hz b hb, q1, q2, q3, q4, fun p hp => ?_⟩
    rcases List.mem_append.mp hp with hp | hp
    · exact q5 p (List.mem_append_left _ hp)
    · rcases List.mem_cons.mp hp with rfl | hp
      · exact Ne.symm (fpS b hb)
      · exact q5 p (List.mem_append_right _ (List.mem_cons_of_mem _ hp))
  have loop : ∀ (m i n : Nat) (ys : List V) (a0 s : Shared) (σ : L2.St) (H : Hp), n + ys.length = sizeLine → W i m ys σ H → GI X S ip ys σ H s → tn i s.heap → (∀ b ∈ fp, H b = none) →
      Seg (model X.prog X.w) A R (GY X S) n a0 (.forLoop tg (.ref it) body [] X.env) ((model X.prog X.w).den (.forLoop tg (.ref it) body [] X.env))
        (.ret (fun r => ((match r with | .ok f => (.pure f : Sem Flow) | .error e => .raise e).onRaise (cameBack X.env)).wrap K J gd lv) none (gd false) (lv []) c p [] :: fs) s := by
    intro m
    induction m using Nat.strongRecOn with
    | ind m ih =>
      intro i n ys a0 s σ H hn w hI st hz
      have ee : ∀ (n : Nat) (a0 : Shared) (x : Value) (z : Shared), X.xe x z → Seg (model X.prog X.w) A R (GY X S) n a0 (.forLoop tg (.ref it) body [] X.env) (noted X.env x)
          (.ret (fun r => ((match r with | .ok f => (.pure f : Sem Flow) | .error e => .raise e).onRaise (cameBack X.env)).wrap K J gd lv) none (gd false) (lv []) c p [] :: fs) z := fun n a0 x z hx => by
        refine seg_wrap ?_
        rw [(gl _).over]
        refine wpAny_bind (wpAny_mono (hp x z hx) (fun _ z' hcb => wpAny_theTreesLotGoes ?_) fun y z' hcb => ?_)
        · exact seg_leaf (.error x) (seg_cameBack gc k hcb)
        · exact seg_leaf (.error y) (seg_cameBack gc k hcb)
      obtain ⟨acc, cc, r, I⟩ := hI
      refine seg_forLoop ?_
      rw [(gl _).over]
      rcases turn i m ys σ H w with ⟨stop, qn⟩ | ⟨go, N, hN, step⟩
      · refine thn (T.done X rfl rfl rfl hc i _ s σ H _ I (stat hz) st stop) fun rr s4 ⟨hr, I4⟩ => ?_
        subst hr
        refine seg_again rfl ?_
        show Seg _ _ _ _ _ _ _ (.pure (.done .next)) _ _
        exact seg_leaf (.ok .next) (k.ok n ys a0 s4 .next hn ⟨σ, H, ⟨acc, cc, r, I4⟩, qn⟩)
      · refine thn (T.item X rfl rfl rfl hc i _ s σ H _ I (stat hz) st go) fun rr s4 ⟨u, hr, h4⟩ => ?_
        subst hr
        refine thn h4 fun _ s5 ⟨x, H5, I5, r5, y5, st5, fr5⟩ => ?_
        have I5' := I5.pinned (stat fr5) (T.obj _ _ st5)
        refine wpAny_mono (hg.run _ s5 σ H5 x u _ I5' r5 (step x H5 y5)) (fun _ s6 ⟨σ6, H6, I6, q6⟩ => ?_) fun e z hx => ee n a0 e z hx
        have ipS : ∀ q ∈ ip ++ pinsAt fp s5.heap, q.1 ≠ S := fun q hq => (List.mem_append.mp hq).elim (gc.ip q) fun z => fpS q.1 (of_pinsAt z).1
        have gl' : GC X S (ip ++ pinsAt fp s5.heap) A (.forLoop tg (.ref it) body [] X.env) (.ret (fun r => ((match r with | .ok f => (.pure f : Sem Flow) | .error e => .raise e).onRaise (cameBack X.env)).wrap K J gd lv) none (gd false) (lv []) c p [] :: fs) id :=
          ⟨gc.pn, ipS, gc.apart, (gl _).over, (gl _).split, (gl _).guard, rfl⟩
        have drop : ∀ {ys' : List V} {σ' : L2.St} {H' : Hp} {z : Shared}, GI X S (ip ++ pinsAt fp s5.heap) ys' σ' H' z → GI X S ip ys' σ' H' z := fun ⟨ac, c1, rr, II⟩ => ⟨ac, c1, rr, II.pins_of fun q hq => II.pin q (List.mem_append_right _ (by
          rcases List.mem_cons.mp hq with rfl | hq
          · exact List.mem_cons_self
          · exact List.mem_cons_of_mem _ (List.mem_append_left _ hq)))⟩
        have stay : ∀ {ys' : List V} {σ' : L2.St} {H' : Hp} {z : Shared}, GI X S (ip ++ pinsAt fp s5.heap) ys' σ' H' z → tn (i + 1) z.heap ∧ ∀ b ∈ fp, H' b = none := fun {ys' σ' H' z} ⟨ac, c1, rr, II⟩ => by
          have pn : ∀ b ∈ fp, ∀ o, s5.heap.get? b = some o → z.heap.get? b = some o ∧ H' b = none := fun b hb o e =>
            let y := II.pin (b, o) (List.mem_append_right _ (List.mem_cons_of_mem _ (List.mem_append_right _ (mem_pinsAt hb e))))
            ⟨y.1, y.2.1⟩
          refine ⟨T.keep _ _ _ st5 fun b hb o e => (pn b hb o e).1, fun b hb => ?_⟩
          obtain ⟨o, e, _⟩ := T.obj _ _ st5 b hb
          exact (pn b hb o e).2
        have I6' : GI X S (ip ++ pinsAt fp s5.heap) ys σ6 H6 s6 := ⟨acc, cc, r, by simpa using I6⟩
        refine hb.run A S _ R n ys a0 _ _ _ _ id id s6 σ6 H6 { D with nx := N, ct := N, bk := D.nx } gl' hn ⟨fun n' ys' b0 s7 f hn' hs => ?_, fun n' b0 e z hx => ee n' b0 e z hx⟩ I6' q6
        cases f with
        | next =>
          obtain ⟨σ7, H7, G7, n7⟩ := hs
          obtain ⟨m', hm, w7⟩ := hN ys' σ7 H7 n7
          exact seg_again rfl (ih m' hm (i + 1) n' ys' b0 s7 σ7 H7 hn' w7 (drop G7) (stay G7).1 (stay G7).2)
        | cont =>
          obtain ⟨σ7, H7, G7, n7⟩ := hs
          obtain ⟨m', hm, w7⟩ := hN ys' σ7 H7 n7
          exact seg_again rfl (ih m' hm (i + 1) n' ys' b0 s7 σ7 H7 hn' w7 (drop G7) (stay G7).1 (stay G7).2)
        | brk =>
          obtain ⟨σ7, H7, G7, n7⟩ := hs
          exact seg_leaf (.ok .next) (k.ok n' ys' b0 s7 .next hn' ⟨σ7, H7, drop G7, n7⟩)
        | ret v =>
          obtain ⟨v7, σ7, H7, G7, r7, n7⟩ := hs
          exact seg_leaf (.ok (.ret v)) (k.ok n' ys' b0 s7 (.ret v) hn' ⟨v7, σ7, H7, drop G7, r7, n7⟩)
  exact loop m0 0 n ys a0 s2 σ H2 hn w0 ⟨acc, cc, r, I2⟩ st2 fun b hb => (f2 b hb).1
end
end Gn
namespace Ev
open PySem L2
/-! ### the program, the defs' promises -/
structure Pr where
  P : Program
  w : World
  K : PySem.W.Frag
  mg : Str → Option Value
  base : Heap
  gq : Bool := true
def spOf (K : PySem.W.Frag) (fr : Bool) (φ : List PV → Cel → R PV) : Sp := fun vs H Q _ => ∃ ω st ts, RepL K ω H vs ts ∧ CelOk K ω st H ∧ match φ ts st with
  | .ok t st' => ∀ v H' ω', ExtE ω H ω' H' → CelOk K ω' st' H' → (if fr then FreshP K H ω' H' v t else Rep K ω' H' v t) → Q v H'
  | _ => False
/-- a generator def's promise: all that it hands out -/
def spG (K : PySem.W.Frag) (φ : List PV → Cel → R PV) : SpG := fun vs H Q _ => ∃ ω st ts, RepL K ω H vs ts ∧ CelOk K ω st H ∧ match φ ts st with
  | .ok (.lst ys) st' => ∀ out H' ω', ExtE ω H ω' H' → CelOk K ω' st' H' → RepL K ω' H' out ys → Q out H'
  | _ => False
/-- a promise of __init__: the new instance is told -/
def spI (K : PySem.W.Frag) (cn : Str) (φ : List PV → Cel → R PV) : Sp := fun vs H Q _ => ∃ a C dx vs' H1 ω st ts, vs = V.ref a :: vs' ∧ PySem.W.nsIn K mainGlobals cn = some (some (.ref C)) ∧ H1 a = none ∧ H1 dx = none ∧ dx ≠ a ∧ H = upd (upd H1 dx (.own a)) a (.ins C dx []) ∧ RepL K ω H1 vs' ts ∧ CelOk K ω st H1 ∧ match φ ts st with
  | .ok t st' => ∀ H' ω', ExtE ω H1 ω' H' → CelOk K ω' st' H' → Rep K ω' H' (.ref a) t → Q .non H'
  | _ => False
/-- a promise by positional values, where no repr is under way (gq: this is asked) -/
def FnG (p : Pr) (k : Nat) (f : Addr) (sp : Sp) : Prop :=
  ∀ (A : Around) (outer : List Env) (s : Shared) (H : Hp) (us : List Value) (vs : List V) (Q : VK) (E : XK), Room k A → (p.gq = true → A.guards = some []) →
    Env0 p.P p.w p.K p.mg p.base A outer s H → Vals vs us → sp vs H Q E → codeAny (model p.P p.w) A (.call (.ref f) ⟨us, []⟩) (CR CX0 outer p.P p.w H s Q E) s
/-- a promise of a call by keywords alone -/
def FnK (p : Pr) (k : Nat) (f : Addr) (ks : List Str) (pm : List Nat) (sp : Sp) : Prop :=
  ∀ (A : Around) (outer : List Env) (s : Shared) (H : Hp) (us : List Value) (vs ws : List V) (Q : VK) (E : XK), Room k A → (p.gq = true → A.guards = some []) → Env0 p.P p.w p.K p.mg p.base A outer s H → Vals vs us → vs.length = ks.length → permA vs pm = some ws → sp ws H Q E →
    codeAny (model p.P p.w) A (.call (.ref f) ⟨[], ks.zip us⟩) (CR CX0 outer p.P p.w H s Q E) s
theorem FnK.mono {p : Pr} {j k : Nat} {f : Addr} {ks : List Str} {pm : List Nat} {sp : Sp} (F : FnK p j f ks pm sp) (h : j ≤ k) : FnK p k f ks pm sp := fun A outer s H us vs ws Q E hr => F A outer s H us vs ws Q E (hr.mono h)
theorem FnG.mono {p : Pr} {j k : Nat} {f : Addr} {sp : Sp} (F : FnG p j f sp) (h : j ≤ k) : FnG p k f sp := fun A outer s H us vs Q E hr => F A outer s H us vs Q E (hr.mono h)
theorem FnG.imp {p : Pr} {k : Nat} {f : Addr} {sp sp' : Sp} (F : FnG p k f sp) (h : ∀ vs H Q E, sp' vs H Q E → sp vs H Q E) : FnG p k f sp' := fun A outer s H us vs Q E hr hg e0 r q => F A outer s H us vs Q E hr hg e0 r (h _ _ _ _ q)
def biNames : List Str := ["len", "int", "tuple", "list", "isinstance", "all", "range", "zip", "bool", "str", "sorted", "set", "dict", "repr", "enumerate", "any", "max", "min", "sum"]
/-- the defs that may be called: their names, whether they hand back a new list, which are told; the names by slot -/
structure Sx where
  nm : Nat → Str
  fr : Nat → Bool
  kn : Nat → Bool
  N : List Str
  gn : Nat → Str := fun _ => ""
  gk : Nat → Bool := fun _ => false
  tk : Nat → Bool := fun _ => false
  rp : Bool := true
  ge : Nat → Bool := fun _ => false
  cn : Nat → Str := fun _ => ""
  mt : Nat → Bool := fun _ => false
  mi : Nat → Bool := fun _ => false
  fl : Str → Str → Bool := fun _ _ => false
  kw : Nat → List Str → List Nat → Bool := fun _ _ _ => false
structure Lib (p : Pr) (k : Nat) (S : Sx) (Φ : Nat → List PV → Cel → R PV) : Prop where
  fn : ∀ i, S.kn i = true → ∃ f, p.mg (S.nm i) = some (.ref f) ∧ PySem.W.keepIn p.K (.ref f) = true ∧ FnG p k f (spOf p.K (S.fr i) (Φ i))
  bi : ∀ x ∈ biNames, p.mg x = none
  rp : S.rp = true → p.gq = true
  gn : ∀ i, S.ge i = true → ∃ f fd ps j, p.mg (S.nm i) = some (.ref f) ∧ PySem.W.keepIn p.K (.ref f) = true ∧ j + 3 ≤ k ∧ Binds p.K fd ps [] ∧ GFn p.P p.w p.K p.mg p.base j f fd ps (spG p.K (Φ i))
  gc : ∀ g, S.gk g = true → ∃ u v t, p.mg (S.gn g) = some u ∧ RelV v u ∧ (∀ ω H, Rep p.K ω H v t) ∧ ∀ st, Φ (1000 + g) [] st = .ok t st
  tb : ∀ g, S.tk g = true → ∃ (a : Addr) (es : Array DictEntry) (n : Nat) (T : List (Str × PV)), p.mg (S.gn g) = some (.ref a) ∧ KDict p.K p.w a es n ∧
    (∀ x, ∃ r, PySem.W.nsIn p.K a x = some r ∧ r.isSome = (T.lookup x).isSome ∧ ∀ t, T.lookup x = some t → ∃ u v, r = some u ∧ RelV v u ∧ ∀ ω H, Rep p.K ω H v t) ∧
    (∀ ts st t st', Φ (2000 + g) ts st = .ok t st' → ∃ x, ts = [.str x] ∧ T.lookup x = some t ∧ st' = st) ∧ (∀ ts st t st', Φ (3000 + g) ts st = .ok t st' → ∃ x, ts = [.str x] ∧ t = .bl (T.lookup x).isSome ∧ st' = st)
  cls : ∀ cn x, S.fl cn x = true → ∃ C, PySem.W.nsIn p.K mainGlobals cn = some (some (.ref C)) ∧ Cls p.K C ∧ NoAttr p.K C x
  mth : ∀ i, S.mt i = true → ∃ C f, PySem.W.nsIn p.K mainGlobals (S.cn i) = some (some (.ref C)) ∧ Cls p.K C ∧ Meth p.K C (S.nm i) f ∧ FnG p k f (spOf p.K false (Φ i))
  mkc : ∀ i, S.mi i = true → ∃ C f j, PySem.W.nsIn p.K mainGlobals (S.cn i) = some (some (.ref C)) ∧ p.mg (S.cn i) = some (.ref C) ∧ Mk p.K C f ∧ j + 1 ≤ k ∧ FnG { p with gq := false } j f (spI p.K (S.cn i) (Φ i))
  kwc : ∀ i ks pm, S.kw i ks pm = true → ∃ f, p.mg (S.nm i) = some (.ref f) ∧ PySem.W.keepIn p.K (.ref f) = true ∧ FnK p k f ks pm (spOf p.K false (Φ i))
structure Good (p : Pr) (k : Nat) (N : List Str) (sc : Scope) (fn : Str → Bool) (X : Cx) : Prop where
  hP : X.prog = p.P
  hw : X.w = p.w
  hK : X.K = p.K
  hmg : X.mg = p.mg
  hb : X.base = p.base
  hN : X.N = N
  nd : N.Nodup
  sc : X.env.scope = sc
  fnE : X.fn = fn
  calm : X.calm = true
  room : Room k X.A
  pass : PassesOwn (model X.prog X.w) X.A X.env X.xe
  gd : p.gq = true → X.A.guards = some []
/-! ### the check -/
/-- a value (b: a list that a name owns may be read); what is walked (tp: the target is a tuple) -/
inductive Md where
  | v (b : Bool) | i (b tp : Bool)
def Md.b : Md → Bool
  | .v b => b
  | .i b _ => b
def Md.isI : Md → Bool
  | .v _ => false
  | .i _ _ => true
def Md.tp : Md → Bool
  | .v _ => false
  | .i _ tp => tp
def visB (sc : Scope) (x : Str) : Bool := match sc.names.lookup x with
  | some .local => true
  | some .cell => true
  | some .free => true
  | _ => false
def locB (sc : Scope) (fn : Str → Bool) (x : Str) : Bool := match sc.names.lookup x with
  | some .local => true
  | some .cell => fn x
  | _ => false
def glB (sc : Scope) (x : Str) : Bool := decide (sc.names.lookup x = some .globalImplicit) && !(x == ("__debug__" : Str)) && !(x == ("__name__" : Str))
def isNm (N : List Str) (sc : Scope) (i : Nat) (e : Expr) : Bool := match asName e with
  | some x => decide (N[i]? = some x) && visB sc x && !(x == ("__debug__" : Str)) && !(x == ("__classdict__" : Str))
  | none => false
def relabelS (scope sc : Scope) : Scope :=
  { scope with names := scope.names.map fun (n, k) => if (k == .free && sc.kind == .function && sc.names.lookup n == some .cell) then (n, .cell) else (n, k) }
theorem relabelS_eq (scope : Scope) (env : Env) : relabel scope env = relabelS scope env.scope := rfl
def chkTg1 (N : List Str) (sc : Scope) (fn : Str → Bool) (i : Nat) (e : Expr) : Bool := match asName e with
  | some x => decide (N[i]? = some x) && locB sc fn x
  | none => false
def chkTgs (N : List Str) (sc : Scope) (fn : Str → Bool) : List Nat → List Expr → Bool
  | [], [] => true
  | i :: is, e :: es => chkTg1 N sc fn i e && chkTgs N sc fn is es
  | _, _ => false
def chkTgN (N : List Str) (sc : Scope) (fn : Str → Bool) : Nat → List Nat → List Expr → Bool
  | 0, [], [] => true
  | _ + 1, [], [] => true
  | n + 1, i :: is, e :: es => if i < 1000 then chkTg1 N sc fn i e && chkTgN N sc fn n is es else (match asTup e with
    | some xs => decide (i - 1000 ≤ is.length) && chkTgs N sc fn (is.take (i - 1000)) xs
    | none => false) && chkTgN N sc fn n (is.drop (i - 1000)) es
  | _, _, _ => false
def chkTg (N : List Str) (sc : Scope) (fn : Str → Bool) (tg : List Nat) (e : Expr) : Bool := match tg with
  | [i] => chkTg1 N sc fn i e
  | is => match asTup e with
    | some es => decide (is.length ≠ 1) && (if nested is then chkTgN N sc fn is.length is es else chkTgs N sc fn is es)
    | none => false
/-- a call of a built-in with these arguments -/
def call1 (sc : Scope) (x : Str) (e : Expr) : Option Expr := match asCall e with
  | some (y, [a]) => if (decide (y = x) && glB sc x && (asStar a).isNone) then some a else none
  | _ => none
def call2 (sc : Scope) (x : Str) (e : Expr) : Option (Expr × Expr) := match asCall e with
  | some (y, [a, b]) => if (decide (y = x) && glB sc x && (asStar a).isNone && (asStar b).isNone) then some (a, b) else none
  | _ => none
/-- no star at all, or none ahead and some behind -/
def starOk (xs : List Expr) : Bool := noStars xs || (match xs with
  | y :: ys => (asStar y).isNone && !noStars ys
  | [] => false)
def fnBlk (scope : Scope) : Str → Bool := fun x => scope.names.lookup x == some .cell
def constS : C → Option Str
  | .str s => some s
  | _ => none
theorem constS_eq {a : C} {s : Str} (h : constS a = some s) : a = .str s := by
  cases a <;> first | (simp [constS] at h; done) | (cases h; rfl)
section
variable (S : Sx)
mutual
def chkE (sc : Scope) (fn : Str → Bool) : Md → C → Expr → Bool
  | _, .var i, e => isNm S.N sc i e
  | m, .bor i, e => m.b && isNm S.N sc i e
  | _, .int i, e => decide (asConst e = some (.int i))
  | _, .str s, e => decide (asConst e = some (.str s))
  | _, .bl b, e => decide (asConst e = some (.bool b))
  | _, .non, e => decide (asConst e = some .none)
  | _, .bin op a b, e => match asBin e with
    | some (l, o, r) => decide (o = opB op) && chkE sc fn (.v true) a l && chkE sc fn (.v true) b r
    | none => false
  | _, .neg a, e => match asUn e with
    | some (o, x) => decide (o = .USub) && chkE sc fn (.v true) a x
    | none => false
  | _, .not a, e => match asUn e with
    | some (o, x) => decide (o = .Not) && chkE sc fn (.v true) a x
    | none => false
  | _, .cmp op a b, e => match asCmp e with
    | some (l, o, r) => decide (o = opC op) && !isSet r && chkE sc fn (.v true) a l && chkE sc fn (.v true) b r
    | none => false
  | m, .and a b, e => match asBool e with
    | some (.And, [x, y], _) => chkE sc fn (.v false) a x && chkE sc fn (.v m.b) b y
    | some (.And, x :: y :: z :: r, p) => chkE sc fn (.v false) a x && chkE sc fn (.v m.b) b (.BoolOp .And (y :: z :: r) p)
    | _ => false
  | m, .or a b, e => match asBool e with
    | some (.Or, [x, y], _) => chkE sc fn (.v false) a x && chkE sc fn (.v m.b) b y
    | some (.Or, x :: y :: z :: r, p) => chkE sc fn (.v false) a x && chkE sc fn (.v m.b) b (.BoolOp .Or (y :: z :: r) p)
    | _ => false
  | m, .ite t a b, e => match asIf e with
    | some (c, x, y) => chkT sc fn t c && chkE sc fn (.v m.b) a x && chkE sc fn (.v m.b) b y
    | none => false
  | _, .tup es, e => match asTup e with
    | some xs => chkA sc fn es xs
    | none => false
  | _, .lst es, e => match asLst e with
    | some xs => chkA sc fn es xs
    | none => false
  | _, .call f es, e => match asCall e with
    | some (x, xs) => !S.fr f && decide (x = S.nm f) && S.kn f && glB sc x && chkA sc fn es xs && starOk xs
    | none => false
  | _, .len a, e => match call1 sc "len" e with
    | some x => chkE sc fn (.v true) a x
    | none => false
  | _, .toInt a, e => match call1 sc "int" e with
    | some x => chkE sc fn (.v true) a x
    | none => false
  | _, .tupleOf a, e => match call1 sc "tuple" e with
    | some x => chkE sc fn (.v true) a x
    | none => false
  | _, .listOf a, e => match call1 sc "list" e with
    | some x => chkE sc fn (.v true) a x
    | none => false
  | _, .isa a t, e => match call2 sc "isinstance" e with
    | some (x, y) => decide (asName y = some (Str.ofString (tyS t))) && glB sc (Str.ofString (tyS t)) && chkE sc fn (.v true) a x
    | none => false
  | _, .cat a b, e => match asBin e with
    | some (l, o, r) => decide (o = .Add) && chkE sc fn (.v true) a l && chkE sc fn (.v true) b r
    | none => false
  | _, .isa2 a t u, e => match call2 sc "isinstance" e with
    | some (x, y) => (match asTup y with
      | some [y1, y2] => decide (asName y1 = some (Str.ofString (tyS t))) && decide (asName y2 = some (Str.ofString (tyS u))) && glB sc (Str.ofString (tyS t)) && glB sc (Str.ofString (tyS u)) && chkE sc fn (.v true) a x
      | _ => false)
    | none => false
  | _, .dgetD a b, e => match asMeth e with
    | some (o, n, x) => decide (n = ("get" : Str)) && plainO o && (asStar x).isNone && chkE sc fn (.v true) a o && chkE sc fn (.v true) b x
    | none => false
  | _, .revT a, e => match asRev e with
    | some x => chkE sc fn (.v true) a x
    | none => false
  | _, .all a, e => match call1 sc "all" e with
    | some x => chkE sc fn (.v true) a x
    | none => false
  | _, .indexOf a b, e => match asMeth e with
    | some (o, n, x) => decide (n = ("index" : Str)) && plainO o && (asStar x).isNone && chkE sc fn (.v true) a o && chkE sc fn (.v true) b x
    | none => false
  | _, .ix a i, e => match asSub e with
    | some (x, y) => (asSlice y).isNone && chkE sc fn (.v true) a x && chkE sc fn (.v true) i y
    | none => false
  | _, .sl a lo hi, e => match asSub e with
    | some (x, y) => (match asSlice y with
      | some (l, h, none) => chkE sc fn (.v true) a x && chkO sc fn lo l && chkO sc fn hi h
      | _ => false)
    | none => false
  | _, .comp elt tg it ifs own, e => match asLc e with
    | some (x, t, i, fs, s) => blkC S.N sc s (own.map fun i => (S.N.getD i "", i)) && ownOk tg own && !isSet i && chkE sc fn (.i true (asTup t).isSome) it i &&
        chkTg S.N (relabelS s sc) (fnBlk s) tg t && chkF (relabelS s sc) (fnBlk s) ifs fs && chkE (relabelS s sc) (fnBlk s) (.v false) elt x
    | none => false
  | m, .rng1 a, e => m.isI && (match call1 sc "range" e with
    | some x => chkE sc fn (.v false) a x
    | none => false)
  | m, .rng2 a b, e => m.isI && (match call2 sc "range" e with
    | some (x, y) => chkE sc fn (.v false) a x && chkE sc fn (.v false) b y
    | none => false)
  | m, .zip2 a b, e => m.isI && m.tp && (match call2 sc "zip" e with
    | some (x, y) => chkE sc fn (.v false) a x && chkE sc fn (.v false) b y
    | none => false)
  | _, .repr a, e => match call1 sc "repr" e with
    | some x => S.rp && chkE sc fn (.v true) a x
    | none => false
  | _, .attr cn a x, e => match asAtt e with
    | some (o, n) => decide (n = x) && plainO o && S.fl cn x && chkE sc fn (.v false) a o
    | none => false
  | _, .meth cn m f a es, e => match asMth e with
    | some (o, n, xs) => decide (n = m) && decide (S.nm f = m) && decide (S.cn f = cn) && S.mt f && plainO o && noStars xs && decide (xs.length < 29) && chkE sc fn (.v false) a o && chkA sc fn es xs
    | none => false
  | _, .make f es, e => match asCall e with
    | some (x, y :: ys) => decide (x = S.cn f) && S.mi f && glB sc x && noStars (y :: ys) && chkA sc fn es (y :: ys)
    | _ => false
  | _, .callK f ks pm es, e => match asCallK e with
    | some (x, kws) => decide (x = S.nm f) && S.kw f ks pm && glB sc x && decide (kwNm kws = ks.map some) && chkA sc fn es (kws.map (·.value)) && noStars (kws.map (·.value))
    | none => false
  | m, .zips a b, e => m.isI && m.tp && (match asZs e with
    | some (x, y) => glB sc "zip" && (asStar x).isNone && (asStar y).isNone && chkE sc fn (.v false) a x && chkE sc fn (.v false) b y
    | none => false)
  | _, .dkeys a, e => match call1 sc "list" e with
    | some x => chkE sc fn (.v true) a x
    | none => false
  | _, .dgetT a i, e => match asSub e with
    | some (x, y) => (asSlice y).isNone && chkE sc fn (.v true) a x && chkE sc fn (.v true) i y
    | none => false
  | _, .glist f es, e => match call1 sc "list" e with
    | some x => (match asCall x with
      | some (y, z :: zs) => decide (y = S.nm f) && S.ge f && glB sc y && noStars (z :: zs) && chkA sc fn es (z :: zs)
      | _ => false)
    | none => false
  | _, .dcomp2 k1 k2 v tg it tg2 it2 own own2, e => match asDc2 e with
    | some ((x1, x2, xv), (t, i), (t2, i2), s) => blkC S.N sc s (own.map fun i => (S.N.getD i "", i)) && !nested tg && ownOk tg own && ownOk tg2 own2 && own2.all (own.contains ·) && !isSet i && !isSet i2 && (asStar x1).isNone && (asStar x2).isNone && chkE sc fn (.i true (asTup t).isSome) it i &&
        chkTg S.N (relabelS s sc) (fnBlk s) tg t && chkE (relabelS s sc) (fnBlk s) (.i false (asTup t2).isSome) it2 i2 && chkTg S.N (relabelS s sc) (fnBlk s) tg2 t2 && chkE (relabelS s sc) (fnBlk s) (.v false) k1 x1 && chkE (relabelS s sc) (fnBlk s) (.v false) k2 x2 && chkE (relabelS s sc) (fnBlk s) (.v false) v xv
    | none => false
  | _, .dct kvs, e => match asDct e with
    | some (ks, vs, _) => ks.all (·.isSome) && decide (ks.length = vs.length) && decide (ks ≠ []) && decide (ks.length ≤ 15) && chkD sc fn kvs ks vs
    | none => false
  | _, .dget a i, e => match asSub e with
    | some (x, y) => (asSlice y).isNone && chkE sc fn (.v true) a x && chkE sc fn (.v true) i y
    | none => false
  | _, .any a, e => match call1 sc "any" e with
    | some x => chkE sc fn (.v true) a x
    | none => false
  | _, .str1 a, e => match call1 sc "str" e with
    | some x => chkE sc fn (.v true) a x
    | none => false
  | _, .chain o1 o2 a b c, e => match asCmp2 e with
    | some (l, p1, m, p2, r) => decide (p1 = opC o1) && decide (p2 = opC o2) && !isSet r && chkE sc fn (.v true) a l && chkE sc fn (.v true) b m && chkE sc fn (.v true) c r
    | none => false
  | _, .gc g, e => match asName e with
    | some x => decide (x = S.gn g) && S.gk g && glB sc x
    | none => false
  | _, .kget g k, e => match asSub e with
    | some (x, y) => (asSlice y).isNone && decide (asName x = some (S.gn g)) && S.tk g && glB sc (S.gn g) && chkE sc fn (.v true) k y
    | none => false
  | _, .kin neg g k, e => match asCmp e with
    | some (l, o, r) => decide (o = if neg then .NotIn else .In) && decide (asName r = some (S.gn g)) && S.tk g && glB sc (S.gn g) && chkE sc fn (.v true) k l
    | none => false
  | _, .comp2 elt tg it tg2 it2 ifs own own2, e => match asLc2 e with
    | some (x, (t, i), (t2, i2, fs), s) => blkC S.N sc s (own.map fun i => (S.N.getD i "", i)) && !nested tg && ownOk tg own && ownOk tg2 own2 && own2.all (own.contains ·) && !isSet i && !isSet i2 && chkE sc fn (.i true (asTup t).isSome) it i &&
        chkTg S.N (relabelS s sc) (fnBlk s) tg t && chkE (relabelS s sc) (fnBlk s) (.i false (asTup t2).isSome) it2 i2 && chkTg S.N (relabelS s sc) (fnBlk s) tg2 t2 && chkF (relabelS s sc) (fnBlk s) ifs fs && chkE (relabelS s sc) (fnBlk s) (.v false) elt x
    | none => false
  | m, .enum a, e => m.isI && m.tp && (match call1 sc "enumerate" e with
    | some x => chkE sc fn (.v false) a x
    | none => false)
  | _, .join a b, e => match asMeth e with
    | some (o, n, x) => decide (n = ("join" : Str)) && plainO o && (asStar x).isNone && chkE sc fn (.v true) a o && chkE sc fn (.v true) b x
    | none => false
  | _, .fstr es, e => match asFstr e with
    | some (v :: w :: r) => chkJ sc fn es (v :: w :: r)
    | some [v] => (match es, asFmt v with
      | .cons a .nil, some x => chkE sc fn (.v true) a x
      | _, _ => false)
    | _ => false
  | _, .rev a, e => match asRev e with
    | some x => chkE sc fn (.v true) a x
    | none => false
  | _, .tupRng a b, e => match call1 sc "tuple" e with
    | some x => (match call2 sc "range" x with
      | some (y, z) => chkE sc fn (.v true) a y && chkE sc fn (.v true) b z
      | none => false)
    | none => false
  | _, .sset a, e => match call1 sc "sorted" e with
    | some x => (match call1 sc "set" x with
      | some y => chkE sc fn (.v true) a y
      | none => false)
    | none => false
  | _, .sorted a, e => match call1 sc "sorted" e with
    | some x => chkE sc fn (.v true) a x
    | none => false
def chkJ (sc : Scope) (fn : Str → Bool) : Cs → List Expr → Bool
  | .nil, [] => true
  | .cons a r, e :: es => (match asFmt e with
      | some x => chkE sc fn (.v true) a x
      | none => (match constS a with
        | some s => decide (asConst e = some (.str s))
        | none => false)) && chkJ sc fn r es
  | _, _ => false
def chkD (sc : Scope) (fn : Str → Bool) : Cs → List (Option Expr) → List Expr → Bool
  | .nil, [], [] => true
  | .cons k (.cons v r), some x :: xs, y :: ys => chkE sc fn (.v false) k x && chkE sc fn (.v false) v y && chkD sc fn r xs ys
  | _, _, _ => false
def chkA (sc : Scope) (fn : Str → Bool) : Cs → List Expr → Bool
  | .nil, [] => true
  | .cons a r, e :: es => (asStar e).isNone && chkE sc fn (.v false) a e && chkA sc fn r es
  | .star a r, e :: es => (match asStar e with
    | some x => chkE sc fn (.v true) a x
    | none => false) && chkA sc fn r es
  | _, _ => false
def chkO (sc : Scope) (fn : Str → Bool) : Cs → Option Expr → Bool
  | .nil, none => true
  | .cons a .nil, some e => chkE sc fn (.v false) a e
  | _, _ => false
def chkF (sc : Scope) (fn : Str → Bool) : Cs → List Expr → Bool
  | .nil, [] => true
  | .cons a .nil, [e] => chkT sc fn a e
  | _, _ => false
/-- as a test -/
def chkT (sc : Scope) (fn : Str → Bool) : C → Expr → Bool
  | .not a, e => match asUn e with
    | some (o, x) => decide (o = .Not) && chkT sc fn a x
    | none => false
  | .and a b, e => match asBool e with
    | some (.And, [x, y], _) => chkT sc fn a x && chkT sc fn b y
    | some (.And, x :: y :: z :: r, p) => chkT sc fn a x && chkT sc fn b (.BoolOp .And (y :: z :: r) p)
    | _ => false
  | .or a b, e => match asBool e with
    | some (.Or, [x, y], _) => chkT sc fn a x && chkT sc fn b y
    | some (.Or, x :: y :: z :: r, p) => chkT sc fn a x && chkT sc fn b (.BoolOp .Or (y :: z :: r) p)
    | _ => false
  | .cmp op a b, e => match asCmp e with
    | some (l, o, r) => decide (o = opC op) && !isSet r && chkE sc fn (.v true) a l && chkE sc fn (.v true) b r
    | none => false
  | .call f es, e => match asCall e with
    | some (x, xs) => !S.fr f && decide (x = S.nm f) && S.kn f && glB sc x && chkA sc fn es xs && starOk xs
    | none => false
  | .isa a t, e => match call2 sc "isinstance" e with
    | some (x, y) => decide (asName y = some (Str.ofString (tyS t))) && glB sc (Str.ofString (tyS t)) && chkE sc fn (.v true) a x
    | none => false
  | .isa2 a t u, e => match call2 sc "isinstance" e with
    | some (x, y) => (match asTup y with
      | some [y1, y2] => decide (asName y1 = some (Str.ofString (tyS t))) && decide (asName y2 = some (Str.ofString (tyS u))) && glB sc (Str.ofString (tyS t)) && glB sc (Str.ofString (tyS u)) && chkE sc fn (.v true) a x
      | _ => false)
    | none => false
  | .all a, e => match call1 sc "all" e with
    | some x => chkE sc fn (.v true) a x
    | none => false
  | .meth cn m f a es, e => match asMth e with
    | some (o, n, xs) => decide (n = m) && decide (S.nm f = m) && decide (S.cn f = cn) && S.mt f && plainO o && noStars xs && decide (xs.length < 29) && chkE sc fn (.v false) a o && chkA sc fn es xs
    | none => false
  | .var i, e => isNm S.N sc i e
  | .ix a i, e => match asSub e with
    | some (x, y) => (asSlice y).isNone && chkE sc fn (.v true) a x && chkE sc fn (.v true) i y
    | none => false
  | .bl b, e => decide (asConst e = some (.bool b))
  | .any a, e => match call1 sc "any" e with
    | some x => chkE sc fn (.v true) a x
    | none => false
  | .chain o1 o2 a b c, e => match asCmp2 e with
    | some (l, p1, m, p2, r) => decide (p1 = opC o1) && decide (p2 = opC o2) && !isSet r && chkE sc fn (.v true) a l && chkE sc fn (.v true) b m && chkE sc fn (.v true) c r
    | none => false
  | .kin neg g k, e => match asCmp e with
    | some (l, o, r) => decide (o = if neg then .NotIn else .In) && decide (asName r = some (S.gn g)) && S.tk g && glB sc (S.gn g) && chkE sc fn (.v true) k l
    | none => false
  | _, _ => false
end
end
end Ev
namespace Ev
open PySem L2
section
variable {X : Cx} {W : Wx} {e a b : Expr} {K : PySem.W.Frag}
/-- a def's call by positional values: the callee runs -/
theorem run_G {p : Pr} {k : Nat} {f : Addr} {sp : Sp} {pins : List (Addr × Obj)} {σ : L2.St} {H : Hp} {s : Shared} {Q : VK} {us : List Value} {vs : List V} (F : FnG p k f sp) (hX : X.prog = p.P ∧ X.w = p.w ∧ X.K = p.K ∧ X.mg = p.mg ∧ X.base = p.base) (hr : Room k X.A) (hg : p.gq = true → X.A.guards = some [])
    (I : Inv X pins σ H s) (r : Vals vs us) (h : sp vs H Q E0) : wpAny (model X.prog X.w) X.A (call (.ref f) us) (EP X pins σ Q) X.xe s := by
  obtain ⟨h1, h2, h3, h4, h5⟩ := hX
  have e0 := I.env0
  rw [h1, h2, h3, h4, h5] at e0
  rw [h1, h2]
  refine wpAny_call (codeAny_mono (F X.A X.stack s H us vs Q E0 hr hg e0 r h) fun res s' hq => ?_)
  match res, hq with
  | .error _, hq => exact False.elim hq
  | .ok (.ret u), hq => exact I.after (by rw [h1, h2]; exact hq)
  | .ok .next, hq => exact False.elim hq
  | .ok .brk, hq => exact False.elim hq
  | .ok .cont, hq => exact False.elim hq
theorem pe_callG {p : Pr} {k : Nat} {f : Addr} {sp : Sp} {x : Str} {q pos : Pos} {es : List Expr} {t : TA} (F : FnG p k f sp) (hX : X.prog = p.P ∧ X.w = p.w ∧ X.K = p.K ∧ X.mg = p.mg ∧ X.base = p.base) (hr : Room k X.A) (hg : p.gq = true → X.A.guards = some [])
    (hk : PySem.W.keepIn X.K (.ref f) = true) (gx : Gl X x) (hm : X.mg x = some (.ref f)) (ha : PA X (e :: es) t) (hd : (x == ("__debug__" : Str)) = false)
    (he : starEach (e :: es) X.env = (false, eval e X.env) :: starEach es X.env) :
    PE X (.Call (.Name x q) (e :: es) [] pos) (fun σ H Q => t σ H fun vs H1 => sp vs H1 Q E0) := ⟨fun pins s σ H Q I h => by
  have args := ha.run pos pins s σ H _ I h
  cases hst : (backTo pos (starEach es X.env)).any (·.1) with
  | false =>
    exact wpAny_Call_Name_kw (ld_glob I gx hm (PySem.W.callWith_K (h₀ := X.base) I.ok.mod.kin hk (thn args fun us s1 z => by
      obtain ⟨vs, H1, I1, r, qq⟩ := z
      exact ⟨I1.kIn, run_G F hX hr hg I1 r qq⟩) he hst) hd)
  | true =>
    exact wpAny_Call_Name_kw (ld_glob I gx hm (PySem.W.callWith_S2 (h₀ := X.base) I.ok.mod.kin hk (thn args fun us s1 z => by
      obtain ⟨vs, H1, I1, r, qq⟩ := z
      exact ⟨I1.kIn, run_G F hX hr hg I1 r qq⟩) he hst) hd)⟩
theorem pe_callG0 {p : Pr} {k : Nat} {f : Addr} {sp : Sp} {x : Str} {q pos : Pos} (F : FnG p k f sp) (hX : X.prog = p.P ∧ X.w = p.w ∧ X.K = p.K ∧ X.mg = p.mg ∧ X.base = p.base) (hr : Room k X.A) (hg : p.gq = true → X.A.guards = some [])
    (hk : PySem.W.keepIn X.K (.ref f) = true) (gx : Gl X x) (hm : X.mg x = some (.ref f)) (hd : (x == ("__debug__" : Str)) = false) : PE X (.Call (.Name x q) [] [] pos) (fun σ H Q => sp [] H Q E0) :=
  ⟨fun pins s σ H Q I h => wpAny_Call_Name_kw (ld_glob I gx hm (PySem.W.callWith_K0 I.kIn hk (run_G (us := []) F hX hr hg I .nil h)) hd)⟩
/-- what a call gives -/
theorem se_call {f : En → Cel → R (List PV)} {φ : List PV → Cel → R PV} {t : TA → TE} {bz : Bool} {es : List Expr} {E : XK} (hpe : ∀ ta, PA X es ta → PE X e (fun σ H Q => ta σ H fun vs H1 => spOf X.K false φ vs H1 Q E)) (ha : PA X es (tvs X.K W f)) :
    PE X e (tv X.K bz W fun ρ st => (f ρ st).bind fun xs st => (φ xs st).noexc) := by
  refine wPE (hpe _ ha) fun σ H Q ⟨g, ω, ρ, st, rel, h⟩ => (bindG (P := RepL X.K) rel h).mono fun xs H1 ⟨ω1, st1, ts, x1, rel1, p, q⟩ => ?_
  refine ⟨ω1, st1, ts, p, rel1.cells, ?_⟩
  cases e1 : φ ts st1 with
  | ok t s => rw [e1] at q; exact fun v H' ω' y c r => q v H' ω' y c (.inl r)
  | exc x s => rw [e1] at q; exact q.elim
  | bad => rw [e1] at q; exact q.elim
theorem sF_call {f : En → Cel → R (List PV)} {φ : List PV → Cel → R PV} {t : TA → TE} {es : List Expr} {E : XK} (hpe : ∀ ta, PA X es ta → PE X e (fun σ H Q => ta σ H fun vs H1 => spOf X.K true φ vs H1 Q E)) (ha : PA X es (tvs X.K W f)) :
    PE X e (tvF X.K W fun ρ st => (f ρ st).bind fun xs st => (φ xs st).noexc) := by
  refine wPE (hpe _ ha) fun σ H Q ⟨g, ω, ρ, st, rel, h⟩ => (bindF (P := RepL X.K) rel h).mono fun xs H1 ⟨ω1, st1, ts, x1, rel1, p, q⟩ => ?_
  refine ⟨ω1, st1, ts, p, rel1.cells, ?_⟩
  cases e1 : φ ts st1 with
  | ok t s => rw [e1] at q; exact fun v H' ω' y c r => q v H' ω' y c r
  | exc x s => rw [e1] at q; exact q.elim
  | bad => rw [e1] at q; exact q.elim
/-- nothing is answered -/
theorem se_bad {f : En → Cel → R PV} {bz : Bool} (h : ∀ ρ st, (∃ e s, f ρ st = .exc e s) ∨ f ρ st = .bad) (hw : ∀ e s, ∀ ρ st, f ρ st ≠ .exc e s) : PE X e (tv X.K bz W f) := ⟨fun pins s σ H Q I ⟨g, ω, ρ, st, rel, q⟩ => by
  rcases h ρ st with ⟨x, s', z⟩ | z
  · exact absurd z (hw x s' ρ st)
  · rw [z] at q; exact q.elim⟩
/-- two operands, as a test -/
theorem w2 {f f' : En → Cel → R PV} {r : R2} {v : Cel → PV → PV → Option PV} {ba bb bz : Bool} (hv : VR2 K ba bb r v) : ∀ σ H Q, tv K bz W (fun ρ st => (f ρ st).bind fun x st => (f' ρ st).bind fun y st => R.of (v st x y) st) σ H Q → tOp r (tv K ba W f) (tv K bb W f') σ H Q :=
  fun σ H Q ⟨g, ω, ρ, st, rel, h⟩ => (bindG (P := RepM K ba) rel h).mono fun x H1 ⟨ω1, st1, t, x1, rel1, p, q⟩ => by
    refine (bindG (P := RepM K bb) (f := f') rel1 q).mono fun y H2 ⟨ω2, st2, u, x2, rel2, p2, q2⟩ => ?_
    obtain ⟨z, ez, qz⟩ := of_post rel2 q2
    exact hv st2 x y t u z ω2 H2 Q rel2.cells (p.extE x2 rel1.cells) p2 ez qz
end
section
variable {p : Pr} {k : Nat} {S : Sx} {Φ : Nat → List PV → Cel → R PV} {sc : Scope} {fn : Str → Bool} {X : Cx} {W : Wx} {e : Expr}
theorem isNm_of {i : Nat} (h : isNm S.N sc i e = true) : ∃ x q, e = .Name x q ∧ S.N[i]? = some x ∧ Vis sc x ∧ (x == ("__debug__" : Str)) = false ∧ (x == ("__classdict__" : Str)) = false := by
  unfold isNm at h
  cases q : asName e with
  | none => rw [q] at h; cases h
  | some x =>
    rw [q] at h
    obtain ⟨pp, rfl⟩ := asName_eq q
    simp only [Bool.and_eq_true, decide_eq_true_eq, Bool.not_eq_true'] at h
    refine ⟨x, pp, rfl, h.1.1.1, ?_, h.1.2, h.2⟩
    have hv := h.1.1.2
    unfold visB at hv
    unfold Vis
    split at hv
    · rename_i z; exact .inl z
    · rename_i z; exact .inr (.inl z)
    · rename_i z; exact .inr (.inr z)
    · cases hv
theorem Good.var (G : Good p k S.N sc fn X) {i : Nat} (h : isNm S.N sc i e = true) : PE X e (tVar i) := by
  obtain ⟨x, q, rfl, h1, h2, h3, h4⟩ := isNm_of h
  exact pe_var (by rw [G.hN]; exact h1) (by rw [G.sc]; exact h2) h3 h4
theorem Good.gl (G : Good p k S.N sc fn X) {x : Str} (h : glB sc x = true) : Gl X x ∧ (x == ("__debug__" : Str)) = false ∧ x ≠ "__name__" := by
  unfold glB at h
  simp only [Bool.and_eq_true, decide_eq_true_eq, Bool.not_eq_true'] at h
  refine ⟨?_, h.1.2, fun z => ?_⟩
  · show X.env.scope.names.lookup x = _
    rw [G.sc]; exact h.1.1
  · rw [z] at h
    exact absurd h.2 (by decide)
theorem call1_of {x : Str} {a : Expr} (h : call1 sc x e = some a) : ∃ q pp, e = .Call (.Name x q) [a] [] pp ∧ glB sc x = true ∧ asStar a = none := by
  unfold call1 at h
  split at h
  · rename_i y a' hc
    split at h
    · rename_i hz
      cases h
      obtain ⟨q, pp, rfl⟩ := asCall_eq hc
      simp only [Bool.and_eq_true, decide_eq_true_eq, Option.isNone_iff_eq_none] at hz
      obtain ⟨⟨rfl, h2⟩, h3⟩ := hz
      exact ⟨q, pp, rfl, h2, h3⟩
    · cases h
  · cases h
theorem call2_of {x : Str} {a b : Expr} (h : call2 sc x e = some (a, b)) : ∃ q pp, e = .Call (.Name x q) [a, b] [] pp ∧ glB sc x = true ∧ asStar a = none ∧ asStar b = none := by
  unfold call2 at h
  split at h
  · rename_i y a' b' hc
    split at h
    · rename_i hz
      cases h
      obtain ⟨q, pp, rfl⟩ := asCall_eq hc
      simp only [Bool.and_eq_true, decide_eq_true_eq, Option.isNone_iff_eq_none] at hz
      obtain ⟨⟨⟨rfl, h2⟩, h3⟩, h4⟩ := hz
      exact ⟨q, pp, rfl, h2, h3, h4⟩
    · cases h
  · cases h
def Snd (X : Cx) (W : Wx) (Φ : Nat → List PV → Cel → R PV) : Md → C → Expr → Prop
  | .v b, c, e => PE X e (tv X.K b W (ev Φ c))
  | .i b tp, c, e => ∀ tg, (tp = true → ∃ es k p, tg = Expr.Tuple es k p) → PI X tg e (ti X.K b W (ev Φ c))
theorem sndOf {m : Md} {c : C} (h : PE X e (tv X.K m.b W (ev Φ c))) : Snd X W Φ m c e := by
  cases m with
  | v b => exact h
  | i b tp => exact fun tg _ => si_seq h
/-- one argument of a built-in -/
theorem Good.bi1 (L : Lib p k S Φ) (G : Good p k S.N sc fn X) {x : Str} {a : Expr} {id : String} {r : List V → Hp → VK → Prop} (h : call1 sc x e = some a) (hm : x ∈ biNames) (hv : bootBuiltins x = some (.builtin id)) (hc : CallR X (.builtin id) r) : ∀ ta, PE X a ta → PE X e (tUn (rC1 r) ta) := by
  intro ta ha
  obtain ⟨q, pp, rfl, h2, h3⟩ := call1_of h
  obtain ⟨g1, g2, g3⟩ := G.gl h2
  exact pe_callB hc g1 (by rw [G.hmg]; exact L.bi x hm) hv (pa_cons ha pa_nil (starEach_plain h3)) g3 g2 (starEach_plain h3) rfl
theorem Good.ty1 (L : Lib p k S Φ) (G : Good p k S.N sc fn X) {x : Str} {a : Expr} {T : String} {r : List V → Hp → VK → Prop} (h : call1 sc x e = some a) (hm : x ∈ biNames) (hv : bootBuiltins x = some (.type T)) (hc : CallR X (.type T) r) : ∀ ta, PE X a ta → PE X e (tUn (rC1 r) ta) := by
  intro ta ha
  obtain ⟨q, pp, rfl, h2, h3⟩ := call1_of h
  obtain ⟨g1, g2, g3⟩ := G.gl h2
  exact pe_callTy hc g1 (by rw [G.hmg]; exact L.bi x hm) hv (pa_cons ha pa_nil (starEach_plain h3)) g3 g2 (starEach_plain h3) rfl
/-- isinstance -/
theorem Good.isi (L : Lib p k S Φ) (G : Good p k S.N sc fn X) {a y : Expr} {t : Ty} {f : En → Cel → R PV} {bz : Bool} (h : call2 sc "isinstance" e = some (a, y)) (hy : asName y = some (Str.ofString (tyS t))) (hg : glB sc (Str.ofString (tyS t)) = true) (ha : PE X a (tv X.K true W f)) :
    PE X e (tv X.K bz W fun ρ st => (f ρ st).bind fun x st => R.of ((isaV x t).map .bl) st) := by
  obtain ⟨q, pp, rfl, h2, h3, h4⟩ := call2_of h
  obtain ⟨g1, g2, g3⟩ := G.gl h2
  obtain ⟨yp, rfl⟩ := asName_eq hy
  obtain ⟨t1, t2, t3⟩ := G.gl hg
  have hmt : p.mg (Str.ofString (tyS t)) = none := L.bi _ (by cases t <;> decide +kernel)
  have hvt : bootBuiltins (Str.ofString (tyS t)) = some (.type (tyS t)) := by cases t <;> decide +kernel
  have hT : PE X (.Name (Str.ofString (tyS t)) yp) (tC (.ty (tyS t))) := pe_bltn t1 (by rw [G.hmg]; exact hmt) hvt rfl t3 t2
  have base : PE X (.Call (.Name "isinstance" q) [a, .Name (Str.ofString (tyS t)) yp] [] pp) (tUn (fun x H Q => rIsi X.K [x, .ty (tyS t)] H Q) (tv X.K true W f)) :=
    pe_callB call_isi g1 (by rw [G.hmg]; exact L.bi _ (by decide +kernel)) PyProof.Rows.boot_isinstance (pa_cons ha (pa_cons hT pa_nil (starEach_plain h4)) (starEach_plain h3)) g3 g2 (starEach_plain h3) (noStars_any (es := [.Name (Str.ofString (tyS t)) yp]) rfl)
  refine wPE base fun σ H Q ⟨g, ω, ρ, st, rel, hh⟩ => (bindG (P := RepM X.K true) rel hh).mono fun x H1 ⟨ω1, st1, u, x1, rel1, pq, qq⟩ => ?_
  obtain ⟨z, ez, qz⟩ := of_post rel1 qq
  cases ei : isaV u t with
  | none => rw [ei] at ez; cases ez
  | some kk =>
    rw [ei] at ez
    cases ez
    obtain ⟨n, hn, hk⟩ := tyx pq ei
    exact ⟨x, _, _, _, kk, rfl, .ty _, hn, kit_ty hk, qz _ _ ω1 (Grow.refl _ _) (.bl kk)⟩
theorem Good.isi2 (L : Lib p k S Φ) (G : Good p k S.N sc fn X) {a y y1 y2 : Expr} {t u : Ty} {f : En → Cel → R PV} {bz : Bool} (h : call2 sc "isinstance" e = some (a, y)) (h' : asTup y = some [y1, y2]) (hy : asName y1 = some (Str.ofString (tyS t))) (hz : asName y2 = some (Str.ofString (tyS u))) (hg : glB sc (Str.ofString (tyS t)) = true) (hg' : glB sc (Str.ofString (tyS u)) = true) (ha : PE X a (tv X.K true W f)) :
    PE X e (tv X.K bz W fun ρ st => (f ρ st).bind fun x st => R.of ((isa2V x t u).map .bl) st) := by
  obtain ⟨q, pp, rfl, h2, h3, h4⟩ := call2_of h
  obtain ⟨g1, g2, g3⟩ := G.gl h2
  obtain ⟨kk, tp, rfl⟩ := asTup_eq h'
  obtain ⟨yp, rfl⟩ := asName_eq hy
  obtain ⟨zp, rfl⟩ := asName_eq hz
  obtain ⟨t1, t2, t3⟩ := G.gl hg
  obtain ⟨u1, u2, u3⟩ := G.gl hg'
  have hmt : p.mg (Str.ofString (tyS t)) = none := L.bi _ (by cases t <;> decide +kernel)
  have hvt : bootBuiltins (Str.ofString (tyS t)) = some (.type (tyS t)) := by cases t <;> decide +kernel
  have hmu : p.mg (Str.ofString (tyS u)) = none := L.bi _ (by cases u <;> decide +kernel)
  have hvu : bootBuiltins (Str.ofString (tyS u)) = some (.type (tyS u)) := by cases u <;> decide +kernel
  have hT : PE X (.Name (Str.ofString (tyS t)) yp) (tC (.ty (tyS t))) := pe_bltn t1 (by rw [G.hmg]; exact hmt) hvt rfl t3 t2
  have hU : PE X (.Name (Str.ofString (tyS u)) zp) (tC (.ty (tyS u))) := pe_bltn u1 (by rw [G.hmg]; exact hmu) hvu rfl u3 u2
  have hTU := pe_tup (x1 := kk) (pos := tp) (pa_cons hT (pa_cons hU pa_nil rfl) rfl)
  have base := pe_callB (p := q) (pos := pp) call_isiT g1 (by rw [G.hmg]; exact L.bi _ (by decide +kernel)) PyProof.Rows.boot_isinstance (pa_cons ha (pa_cons hTU pa_nil rfl) (starEach_plain h3)) g3 g2 (starEach_plain h3) (noStars_any (es := [.Tuple [.Name (Str.ofString (tyS t)) yp, .Name (Str.ofString (tyS u)) zp] kk tp]) rfl)
  refine wPE base fun σ H Q ⟨g, ω, ρ, st, rel, hh⟩ => (bindG (P := RepM X.K true) rel hh).mono fun x H1 ⟨ω1, st1, v, x1, rel1, pq, qq⟩ => ?_
  refine ⟨by show 2 ≤ sizeLine; rw [sizeLine_eq]; omega, fun p0 hp => ?_⟩
  obtain ⟨z, ez, qz⟩ := of_post rel1 qq
  cases ei : isa2V v t u with
  | none => rw [ei] at ez; cases ez
  | some k0 =>
    rw [ei] at ez
    cases ez
    have pq' : RepM X.K true ω1 (upd H1 p0 (.tup [.ty (tyS t), .ty (tyS u)])) x v := RepM.extE pq (Grow.upd hp).toE rel1.cells
    obtain ⟨n, c, d, hn, hc, hd, rfl⟩ := tyx2 pq' ei
    refine ⟨x, p0, _, _, [.type (tyS t), .type (tyS u)], (c || d), rfl, upd_same, .cons (.ty _) (.cons (.ty _) .nil), hn, ?_, qz _ _ ω1 (Grow.upd hp) (.bl _)⟩
    exact kitAny_cons (kit_ty hc) (fun e => by
      subst e
      exact kitAny_cons (kit_ty hd) (fun e => by subst e; rfl) (fun e => by subst e; rfl)) (fun e => by subst e; rfl)
theorem locB_of {x : Str} (h : locB sc fn x = true) : Loc sc x ∧ (fn x = true ∨ sc.names.lookup x = some .local) := by
  unfold locB at h
  unfold L2.Loc
  split at h
  · rename_i z; exact ⟨.inl z, .inr z⟩
  · rename_i z; exact ⟨.inr z, .inl h⟩
  · cases h
theorem Good.tg1 (G : Good p k S.N sc fn X) {i : Nat} (h : chkTg1 S.N sc fn i e = true) : PG X e (gName i) := by
  unfold chkTg1 at h
  cases q : asName e with
  | none => rw [q] at h; cases h
  | some x =>
    rw [q] at h
    obtain ⟨pp, rfl⟩ := asName_eq q
    simp only [Bool.and_eq_true, decide_eq_true_eq] at h
    obtain ⟨l1, l2⟩ := locB_of h.2
    exact pg_name (by rw [G.hN]; exact G.nd) (by rw [G.hN]; exact h.1) (by rw [G.sc]; exact l1) (by rw [G.fnE, G.sc]; exact l2)
theorem asName_star {x : Str} (h : asName e = some x) : asStar e = none := by
  obtain ⟨_, rfl⟩ := asName_eq h
  rfl
theorem assignEach_plain {es : List Expr} {env : Env} (h : asStar e = none) : assignEach (e :: es) env = (false, assign e env) :: assignEach es env := by
  cases e <;> first | rfl | (simp [asStar] at h)
theorem tg1_star {i : Nat} (h : chkTg1 S.N sc fn i e = true) : asStar e = none := by
  unfold chkTg1 at h
  cases q : asName e with
  | none => rw [q] at h; cases h
  | some x => exact asName_star q
theorem Good.tgs (G : Good p k S.N sc fn X) : ∀ {is : List Nat} {es : List Expr}, chkTgs S.N sc fn is es = true → PGs X es (gNames is) ∧ (assignEach es X.env).length = is.length ∧ (assignEach es X.env).findIdx? (·.1) = none
  | [], [], _ => ⟨pgs_nil, rfl, rfl⟩
  | i :: is, e :: es, h => by
    unfold chkTgs at h
    rw [Bool.and_eq_true] at h
    obtain ⟨h1, h2, h3⟩ := Good.tgs G h.2
    have hs := assignEach_plain (es := es) (env := X.env) (tg1_star h.1)
    refine ⟨pgs_cons (G.tg1 h.1) h1 (by rw [hs]; rfl), by rw [hs]; simp [h2], ?_⟩
    rw [hs, List.findIdx?_cons, h3]
    rfl
  | [], _ :: _, h => by cases h
  | _ :: _, [], h => by cases h
theorem Good.tgN (G : Good p k S.N sc fn X) : ∀ {n : Nat} {is : List Nat} {es : List Expr}, chkTgN S.N sc fn n is es = true → PGs X es (gNest X.K n is) ∧ (assignEach es X.env).length = topN n is ∧ (assignEach es X.env).findIdx? (·.1) = none
  | 0, [], [], _ => ⟨pgs_nil, rfl, rfl⟩
  | _ + 1, [], [], _ => ⟨pgs_nil, rfl, rfl⟩
  | n + 1, i :: is, e :: es, h => by
    unfold chkTgN at h
    unfold gNest topN
    by_cases hi : i < 1000
    · rw [if_pos hi] at h
      rw [if_pos hi, if_pos hi]
      rw [Bool.and_eq_true] at h
      obtain ⟨h1, h2, h3⟩ := Good.tgN G h.2
      have hs := assignEach_plain (es := es) (env := X.env) (tg1_star h.1)
      refine ⟨pgs_cons (G.tg1 h.1) h1 (by rw [hs]; rfl), by rw [hs]; simp [h2], ?_⟩
      rw [hs, List.findIdx?_cons, h3]
      rfl
    · rw [if_neg hi] at h
      rw [if_neg hi, if_neg hi]
      rw [Bool.and_eq_true] at h
      cases q : asTup e with
      | none => rw [q] at h; exact absurd h.1 (by simp)
      | some xs =>
        rw [q] at h
        obtain ⟨kk, pp, rfl⟩ := asTup_eq q
        have h0 := h.1
        rw [Bool.and_eq_true, decide_eq_true_eq] at h0
        obtain ⟨a1, a2, a3⟩ := G.tgs h0.2
        obtain ⟨h1, h2, h3⟩ := Good.tgN G h.2
        have hs := assignEach_plain (e := .Tuple xs kk pp) (es := es) (env := X.env) rfl
        have hl : (assignEach xs X.env).length = i - 1000 := by rw [a2, List.length_take]; omega
        refine ⟨pgs_cons (pg_tup G.calm a1 hl a3) h1 (by rw [hs]; rfl), by rw [hs]; simp [h2], ?_⟩
        rw [hs, List.findIdx?_cons, h3]
        rfl
  | 0, [], _ :: _, h => by cases h
  | 0, _ :: _, _, h => by cases h
  | _ + 1, [], _ :: _, h => by cases h
  | _ + 1, _ :: _, [], h => by cases h
theorem Good.tg (G : Good p k S.N sc fn X) {tg : List Nat} (h : chkTg S.N sc fn tg e = true) : PG X e (gAsg X.K tg) := by
  have many : ∀ is : List Nat, (match asTup e with
    | some es => decide (is.length ≠ 1) && (if nested is then chkTgN S.N sc fn is.length is es else chkTgs S.N sc fn is es)
    | none => false) = true → PG X e (if nested is then gTup X.K (topN is.length is) (gNest X.K is.length is) else fun v σ H Q => gTup X.K is.length (gNames is) v σ H Q ∨ gUnl X.K is.length (gNames is) v σ H Q) := fun is hm => by
    clear h
    cases q : asTup e with
    | none => rw [q] at hm; cases hm
    | some es =>
      rw [q] at hm
      obtain ⟨kk, pp, rfl⟩ := asTup_eq q
      have h' : (decide (is.length ≠ 1) && (if nested is then chkTgN S.N sc fn is.length is es else chkTgs S.N sc fn is es)) = true := hm
      rw [Bool.and_eq_true] at h'
      have h2 := h'.2
      cases hn : nested is with
      | true =>
        rw [hn, if_pos rfl] at h2
        rw [if_pos rfl]
        obtain ⟨h1, h2, h3⟩ := G.tgN h2
        exact pg_tup G.calm h1 h2 h3
      | false =>
        rw [hn, if_neg (by decide)] at h2
        rw [if_neg (by decide)]
        obtain ⟨h1, h2, h3⟩ := G.tgs h2
        exact pg_or (pg_tup G.calm h1 h2 h3) (pg_unl G.calm h1 h2 h3)
  match tg, h with
  | [i], h => exact G.tg1 h
  | [], h => exact many [] h
  | i :: j :: is, h => exact many (i :: j :: is) h
theorem Good.blk (G : Good p k S.N sc fn X) (s : Shared) (H : Hp) (scope : Scope) (C : Addr) (cl : List (Str × Addr)) (fp : List Addr) : Good p k S.N (relabelS scope sc) (fnBlk scope) (X.blk s H scope (compEnvC scope cl C X.env) fp) :=
  ⟨G.hP, G.hw, G.hK, G.hmg, G.hb, G.hN, G.nd, (by show relabel scope X.env = _; rw [relabelS_eq, G.sc]), rfl, G.calm, G.room, PassesOwn.never, G.gd⟩
end
end Ev
namespace Ev
open PySem PySem.Spec PyProof.Rows L2 StX
/-! ### instances: methods, attributes, making; calls by keywords -/
section
variable {X : Cx} {W : Wx} {e a b : Expr} {K : PySem.W.Frag} {g : Gh} {ω ω' : Wd} {ρ : En} {st st' : Cel} {σ : L2.St} {H H' : Hp}
theorem meth_ht {o : Expr} {m : Str} {apos pos : Pos} {args : List Expr} {env : Env} (hbase : attributeBase o m env (eval o env) = eval o env) (hform : methodCallForm (args.length + ([] : List Keyword).length) (backTo pos (starEach args env)) (backToKw pos (keywordEach [] env)) = true) (hline : (apos.endLine == pos.line) = true) :
    eval (.Call (.Attribute o m apos) args [] pos) env = (do
      let ov ← eval o env
      standAt apos.atName
      let (f, first) ← holding [ov] (getMethod ov m (do return (← importBound o env).getD true))
      callWith pos f first (backTo pos (starEach args env)) (backToKw pos (keywordEach [] env))) := by
  have hpos : methodCallPos true o env apos pos = pure pos := by unfold methodCallPos; simp [hline]
  rw [arm_eval_Call, hbase]
  unfold methodCall
  rw [hform, hpos]
  rfl
theorem form_of {pos : Pos} {args : List Expr} {env : Env} (hs : noStars args = true) (hl : args.length < 29) : methodCallForm (args.length + ([] : List Keyword).length) (backTo pos (starEach args env)) (backToKw pos (keywordEach [] env)) = true := by
  have h1 : (backTo pos (starEach args env)).all (fun x => !x.1) = true := by
    have := noStars_any (env := env) (pos := pos) hs
    rw [List.all_eq_not_any_not]
    simpa using this
  unfold methodCallForm
  rw [h1]
  simp only [List.length_nil, Nat.add_zero, Bool.true_and]
  show (true && decide (args.length + 0 < 30)) = true
  simp
  omega
/-- o.m(..): the callee keeps its promise -/
theorem pe_methG {p : Pr} {k : Nat} {f C : Addr} {sp : Sp} {m : Str} {apos pos : Pos} {o : Expr} {es : List Expr} {ta : TE} {t : TA} (F : FnG p k f sp) (hX : X.prog = p.P ∧ X.w = p.w ∧ X.K = p.K ∧ X.mg = p.mg ∧ X.base = p.base) (hr : Room k X.A) (hg : p.gq = true → X.A.guards = some [])
    (he : PE X o ta) (c : Cls X.K C) (hm : Meth X.K C m f) (ha : PA X es t) (hb : attributeBase o m X.env (eval o X.env) = eval o X.env) (hs : noStars es = true) (hl : es.length < 29) (hline : (apos.endLine == pos.line) = true) (hnil : es = [] → ∀ σ H Q, t σ H Q → Q [] H) :
    PE X (.Call (.Attribute o m apos) es [] pos) (fun σ H Q => ta σ H fun x H1 => ∃ a dx fs, x = .ref a ∧ H1 a = some (.ins C dx fs) ∧ fs.lookup m = none ∧ t σ H1 fun vs H2 => sp (x :: vs) H2 Q E0) := by
  refine ⟨fun pins s σ H Q I h => ?_⟩
  refine PySem.W.methodCall_KW (thn (he.run pins s σ H _ I h) fun u s1 ⟨x, H1, I1, rx, a, dx, fs, ex, ea, l, q⟩ => ?_) (meth_ht hb (form_of hs hl) hline)
  subst ex
  obtain rfl : u = Value.ref a := rx
  refine getmeth_ok I1 ea c hm l ?_
  cases es with
  | nil =>
    refine PySem.W.callWith_K0 (first := [.ref a]) I1.kIn hm.kp ?_
    exact run_G (vs := [.ref a]) (us := [.ref a]) F hX hr hg I1 (.cons rfl .nil) (hnil rfl _ _ _ q)
  | cons y ys =>
    have h1 : asStar y = none ∧ noStars ys = true := by
      unfold noStars at hs
      rw [List.all_cons, Bool.and_eq_true, Option.isNone_iff_eq_none] at hs
      exact hs
    refine PySem.W.callWith_K (first := [.ref a]) (h₀ := X.base) I.ok.mod.kin hm.kp (thn (ha.run pos pins s1 σ H1 _ I1 q) fun us s2 ⟨vs, H2, I2, r, q2⟩ => ⟨I2.kIn, ?_⟩) (starEach_plain h1.1) (noStars_any h1.2)
    exact run_G (vs := .ref a :: vs) (us := .ref a :: us) F hX hr hg I2 (.cons rfl r) q2
/-- a promise of __init__, wherever it runs -/
theorem pe_makeG {p : Pr} {k : Nat} {f C : Addr} {sp : Sp} {x : Str} {q pos : Pos} {es : List Expr} {t : TA} (F : FnG { p with gq := false } k f sp) (hX : X.prog = p.P ∧ X.w = p.w ∧ X.K = p.K ∧ X.mg = p.mg ∧ X.base = p.base) (hr : Room (k + 1) X.A) (M : Mk X.K C f) (gx : Gl X x) (hm : X.mg x = some (.ref C)) (ha : PA X (e :: es) t) (hd : (x == ("__debug__" : Str)) = false)
    (he : asStar e = none) (hs : noStars es = true) : PE X (.Call (.Name x q) (e :: es) [] pos) (tMakeR C sp E0 t) := by
  refine ⟨fun pins s σ H Q I h => ?_⟩
  refine wpAny_Call_Name_kw (ld_glob I gx hm ?_ hd)
  refine PySem.W.callWith_K (h₀ := X.base) I.ok.mod.kin M.kp (thn (ha.run pos pins s σ H _ I h) fun us s1 ⟨vs, H1, I1, r, hq0⟩ => ⟨I1.kIn, ?_⟩) (starEach_plain he) (noStars_any hs)
  have hq := hq0 (s1.heap.objs.size + 1) s1.heap.objs.size (I1.hok.fresh (Nat.le_succ _)) (I1.hok.fresh (Nat.le_refl _)) (Nat.ne_of_lt (Nat.lt_succ_self _))
  have I2 := Inv.made (C := C) I1
  have r2 : Vals (V.ref (s1.heap.objs.size + 1) :: vs) (Value.ref (s1.heap.objs.size + 1) :: us) := .cons rfl r
  obtain ⟨h1, h2, h3, h4, h5⟩ := hX
  have e0 := I2.env0.make C us []
  rw [h1, h2, h3, h4, h5] at e0
  rw [h1, h2]
  refine wpAny_call (make_map (f := f) I1.kIn M.makes M.init (beq_iff_eq.mp M.fn) (codeAny_mono (F _ X.stack _ _ (Value.ref (s1.heap.objs.size + 1) :: us) _ _ E0 (hr.make C us []) (fun z => by cases z) e0 r2 hq) fun r s' hq' => ?_))
  match r, hq' with
  | .error _, hq => exact False.elim hq
  | .ok (.ret u), hq =>
    obtain ⟨v, H', I3, rv, ev, q3⟩ := I2.after (by rw [h1, h2]; exact hq)
    subst ev
    exact ⟨rv, ⟨V.ref (s1.heap.objs.size + 1), H', I3, rfl, q3⟩⟩
  | .ok .next, hq => exact False.elim hq
  | .ok .brk, hq => exact False.elim hq
  | .ok .cont, hq => exact False.elim hq
theorem wPK {kws : List Keyword} {t t' : TA} (h : PK X kws t) (i : ∀ σ H Q, t' σ H Q → t σ H Q) : PK X kws t' := ⟨fun pos pins s σ H Q I q => h.run pos pins s σ H Q I (i _ _ _ q)⟩
theorem sk_nil {Φ : Nat → List PV → Cel → R PV} : PK X [] (tvs X.K W (evs Φ .nil)) := wPK pk_nil fun σ H Q ⟨g, ω, ρ, st, rel, h⟩ => by
  rw [evs] at h
  exact postOk rel h .nil
theorem sk_cons {Φ : Nat → List PV → Cel → R PV} {kws : List Keyword} {nm : Option Str} {kp : Pos} {c : C} {r : Cs} (ha : PE X e (tv X.K false W (ev Φ c))) (hb : PK X kws (tvs X.K W (evs Φ r))) : PK X (⟨nm, e, kp⟩ :: kws) (tvs X.K W (evs Φ (.cons c r))) := by
  refine wPK (pk_cons ha hb) fun σ H Q ⟨g, ω, ρ, st, rel, h⟩ => ?_
  rw [evs] at h
  refine (bindG (P := RepM X.K false) rel h).mono fun x H1 ⟨ω1, st1, t, x1, rel1, p, q⟩ => ?_
  refine (bindG (P := RepL X.K) (f := evs Φ r) rel1 q).mono fun y H2 ⟨ω2, st2, u, x2, rel2, p2, q2⟩ => ?_
  exact postOk rel2 q2 (.cons (p.extE x2 rel1.cells).rep p2)
theorem kw_names {kws : List Keyword} {ks : List Str} {pos : Pos} {env : Env} (h : kwNm kws = ks.map some) : (backToKw pos (keywordEach kws env)).all (·.1.isSome) = true ∧ (backToKw pos (keywordEach kws env)).filterMap (·.1) = ks ∧ (backToKw pos (keywordEach kws env)).any (·.1.isNone) = false := by
  induction kws generalizing ks with
  | nil => cases ks with
    | nil => exact ⟨rfl, rfl, rfl⟩
    | cons _ _ => cases h
  | cons k kws ih =>
    obtain ⟨nm, v, kp⟩ := k
    cases ks with
    | nil => cases h
    | cons x ks =>
      have h' : nm = some x ∧ kwNm kws = ks.map some := by
        unfold kwNm at h ⊢
        simpa using h
      obtain ⟨rfl, h'⟩ := h'
      obtain ⟨i1, i2, i3⟩ := ih h'
      refine ⟨?_, ?_, ?_⟩
      · show (true && (backToKw pos (keywordEach kws env)).all (·.1.isSome)) = true
        rw [i1]; rfl
      · show x :: (backToKw pos (keywordEach kws env)).filterMap (·.1) = _
        rw [i2]
      · show (false || (backToKw pos (keywordEach kws env)).any (·.1.isNone)) = false
        rw [i3]; rfl
theorem pe_callK0 {p : Pr} {k : Nat} {f : Addr} {sp : Sp} {x : Str} {q pos : Pos} {kws : List Keyword} {t : TA} {ks : List Str} {pm : List Nat} (F : FnK p k f ks pm sp) (hX : X.prog = p.P ∧ X.w = p.w ∧ X.K = p.K ∧ X.mg = p.mg ∧ X.base = p.base) (hr : Room k X.A) (hg : p.gq = true → X.A.guards = some [])
    (hk : PySem.W.keepIn X.K (.ref f) = true) (gx : Gl X x) (hm : X.mg x = some (.ref f)) (ha : PK X kws t) (hd : (x == ("__debug__" : Str)) = false) (hn : kwNm kws = ks.map some) :
    PE X (.Call (.Name x q) [] kws pos) (fun σ H Q => t σ H fun vs H1 => vs.length = ks.length ∧ ∃ ws, permA vs pm = some ws ∧ sp ws H1 Q E0) := by
  obtain ⟨n1, n2, n3⟩ := kw_names (pos := pos) (env := X.env) hn
  refine ⟨fun pins s σ H Q I h => ?_⟩
  refine wpAny_Call_Name_kw (ld_glob I gx hm ?_ hd)
  refine PySem.W.callWith_KW0 (h₀ := X.base) I.ok.mod.kin hk n1 ?_ (by rw [n3]; rfl)
  refine thn (ha.run pos pins s σ H _ I h) fun us s2 ⟨vs, H2, I2, rz, hl, ws, hw, q2⟩ => ⟨I2.kIn, ?_⟩
  rw [n2]
  obtain ⟨h1, h2, h3, h4, h5⟩ := hX
  have e0 := I2.env0
  rw [h1, h2, h3, h4, h5] at e0
  rw [h1, h2]
  refine wpAny_call (codeAny_mono (F X.A X.stack s2 H2 us vs ws Q E0 hr hg e0 rz hl hw q2) fun res s' hq => ?_)
  match res, hq with
  | .error _, hq => exact False.elim hq
  | .ok (.ret u), hq => exact I2.after (by rw [h1, h2]; exact hq)
  | .ok .next, hq => exact False.elim hq
  | .ok .brk, hq => exact False.elim hq
  | .ok .cont, hq => exact False.elim hq
end
end Ev
namespace Ev
open PySem L2
section
variable {p : Pr} {k : Nat} {S : Sx} {Φ : Nat → List PV → Cel → R PV}
theorem asB_ev {X : Cx} {W : Wx} {e : Expr} {c : C} (hp : plainT e = true) (h : PE X e (tv X.K false W (ev Φ c))) : PT X e (tvbb X.K W (asB (ev Φ c))) := st_val (fun _ q => pt_val q (isTrue_of hp)) h
theorem pw_bool {X : Cx} {op : BoolOp} {es : List Expr} {pos : Pos} {t : TT} (h : PT X (.BoolOp op es pos) t) : PW X (.BoolOp op es pos) t := ⟨fun whole pins s σ H Q I q => h.run pins s σ H Q I q⟩
theorem sub_own {own : List Nat} {N : List Str} : (own.map fun i => (N.getD i "", i)).map (·.2) = own := by
  rw [List.map_map]
  exact List.map_id _
theorem Good.call (L : Lib p k S Φ) {sc : Scope} {fn : Str → Bool} {X : Cx} {W : Wx} {e : Expr} (G : Good p k S.N sc fn X) {f : Nat} {x : Str} {xs : List Expr} {es : Cs} (hc : asCall e = some (x, xs)) (hx : x = S.nm f) (hk : S.kn f = true) (hg : glB sc x = true)
    (hs : starOk xs = true) (hn : xs = [] → es = .nil) (ha : PA X xs (tvs X.K W (evs Φ es))) :
    (S.fr f = false → ∀ bz, PE X e (tv X.K bz W (ev Φ (.call f es)))) ∧ (S.fr f = true → PE X e (tvF X.K W (ev Φ (.call f es)))) := by
  obtain ⟨q, pp, rfl⟩ := asCall_eq hc
  obtain ⟨g1, g2, g3⟩ := G.gl hg
  obtain ⟨fa, m1, m2, F⟩ := L.fn f hk
  have F' : FnG p k fa (spOf X.K (S.fr f) (Φ f)) := by rw [G.hK]; exact F
  have hX : X.prog = p.P ∧ X.w = p.w ∧ X.K = p.K ∧ X.mg = p.mg ∧ X.base = p.base := ⟨G.hP, G.hw, G.hK, G.hmg, G.hb⟩
  have m1' : X.mg x = some (.ref fa) := by rw [G.hmg, hx]; exact m1
  have m2' : PySem.W.keepIn X.K (.ref fa) = true := by rw [G.hK]; exact m2
  cases xs with
  | nil =>
    cases hn rfl
    have pe := pe_callG0 (pos := pp) (q := q) F' hX G.room G.gd m2' g1 m1' g2
    refine ⟨fun hf bz => ?_, fun hf => ?_⟩
    · rw [hf] at pe
      refine wPE pe fun σ H Q ⟨g, ω, ρ, st, rel, h⟩ => ?_
      change postG _ _ _ _ _ _ _ _ ((Φ f [] st).noexc) Q at h
      refine ⟨ω, st, [], .nil, rel.cells, ?_⟩
      cases e1 : Φ f [] st with
      | ok t s => rw [e1] at h; exact fun v H' ω' y c r => h v H' ω' y c (.inl r)
      | exc x s => rw [e1] at h; exact h.elim
      | bad => rw [e1] at h; exact h.elim
    · rw [hf] at pe
      refine wPE pe fun σ H Q ⟨g, ω, ρ, st, rel, h⟩ => ?_
      change postF _ _ _ _ _ _ _ ((Φ f [] st).noexc) Q at h
      refine ⟨ω, st, [], .nil, rel.cells, ?_⟩
      cases e1 : Φ f [] st with
      | ok t s => rw [e1] at h; exact fun v H' ω' y c r => h v H' ω' y c r
      | exc x s => rw [e1] at h; exact h.elim
      | bad => rw [e1] at h; exact h.elim
  | cons y ys =>
    have pe : ∀ ta, PA X (y :: ys) ta → PE X (.Call (.Name x q) (y :: ys) [] pp) (fun σ H Q => ta σ H fun vs H1 => spOf X.K (S.fr f) (Φ f) vs H1 Q E0) := fun ta hta => by
      have h1 : asStar y = none := by
        unfold starOk at hs
        rw [Bool.or_eq_true] at hs
        rcases hs with hs | hs
        · unfold noStars at hs
          rw [List.all_cons, Bool.and_eq_true, Option.isNone_iff_eq_none] at hs
          exact hs.1
        · rw [Bool.and_eq_true, Option.isNone_iff_eq_none] at hs
          exact hs.1
      exact pe_callG F' hX G.room G.gd m2' g1 m1' hta g2 (starEach_plain h1)
    refine ⟨fun hf bz => ?_, fun hf => ?_⟩
    · rw [hf] at pe
      exact se_call (t := fun _ => tC .non) pe ha
    · rw [hf] at pe
      exact sF_call (t := fun _ => tC .non) pe ha
theorem F_lst {sc : Scope} {fn : Str → Bool} {X : Cx} {m : Md} {e : Expr} {W : Wx} {es : Cs} (h : chkE S sc fn m (.lst es) e = true) (ha : ∀ xs, chkA S sc fn es xs = true → PA X xs (tvs X.K W (evs Φ es))) : PE X e (tvF X.K W (ev Φ (.lst es))) := by
  rw [chkE] at h
  cases q : asLst e with
  | none => rw [q] at h; cases h
  | some xs =>
    rw [q] at h
    obtain ⟨pp, rfl⟩ := asLst_eq q
    exact sF_lst (fun ta ha => pe_lst ha) (ha xs h)
theorem F_listOf (L : Lib p k S Φ) {sc : Scope} {fn : Str → Bool} {X : Cx} {m : Md} {e : Expr} {W : Wx} {a : C} (G : Good p k S.N sc fn X) (h : chkE S sc fn m (.listOf a) e = true) (ha : ∀ x, chkE S sc fn (.v true) a x = true → PE X x (tv X.K true W (ev Φ a))) : PE X e (tvF X.K W (ev Φ (.listOf a))) := by
  rw [chkE] at h
  cases q : call1 sc "list" e with
  | none => rw [q] at h; cases h
  | some x =>
    rw [q] at h
    exact sF1 (v := fun _ => listV) (G.ty1 L q (by decide +kernel) PyProof.Rows.boot_list call_list_of) (ha x h) vf_list
theorem F_comp {sc : Scope} {fn : Str → Bool} {X : Cx} {m : Md} {e : Expr} {W : Wx} {elt it : C} {tg own : List Nat} {ifs : Cs} (G : Good p k S.N sc fn X) (h : chkE S sc fn m (.comp elt tg it ifs own) e = true)
    (h1 : ∀ tp x, chkE S sc fn (.i true tp) it x = true → Snd X W Φ (.i true tp) it x)
    (h2 : ∀ {sc : Scope} {fn : Str → Bool} {X : Cx} {fs : List Expr}, Good p k S.N sc fn X → chkF S sc fn ifs fs = true → PTs X fs (tvbb X.K W0 (evt Φ ifs)))
    (h3 : ∀ {sc : Scope} {fn : Str → Bool} {X : Cx} {x : Expr}, Good p k S.N sc fn X → chkE S sc fn (.v false) elt x = true → PE X x (tv X.K false W0 (ev Φ elt))) : PE X e (tvF X.K W (ev Φ (.comp elt tg it ifs own))) := by
  rw [chkE] at h
  cases q : asLc e with
  | none => rw [q] at h; cases h
  | some u =>
    obtain ⟨x, t, i, fs, s⟩ := u
    rw [q] at h
    obtain ⟨pp, rfl⟩ := asLc_eq q
    simp only [Bool.and_eq_true, Bool.not_eq_true'] at h
    obtain ⟨⟨⟨⟨⟨⟨q1, q2⟩, q3⟩, q4⟩, q5⟩, q6⟩, q7⟩ := h
    refine sF_comp ?_ q2
    · have base := pe_lc (X := X) (elt := x) (tg := t) (iter := i) (ifs := fs) (scope := s) (pos := pp) (own := own.map fun i => (S.N.getD i "", i)) (wi := ti X.K true W (ev Φ it)) (g := gAsg X.K tg) (tt := tvbb X.K W0 (evt Φ ifs)) (te := tv X.K false W0 (ev Φ elt)) G.calm (by rw [G.hN]; exact G.nd)
        (h1 _ i q4 t (fun z => by
          cases q2 : asTup t with
          | none => rw [q2] at z; cases z
          | some es => obtain ⟨kk, p2, rfl⟩ := asTup_eq q2; exact ⟨es, kk, p2, rfl⟩))
        (by rw [G.hN, G.sc]; exact blkOk_by q1)
        (fun s' H' C cl fp => (G.blk s' H' s C cl fp).tg q5)
        (fun s' H' C cl fp => h2 (G.blk s' H' s C cl fp) q6)
        (fun s' H' C cl fp => h3 (G.blk s' H' s C cl fp) q7)
        (fsi_of q3)
      rw [sub_own] at base
      exact base
theorem F_dkeys (L : Lib p k S Φ) {sc : Scope} {fn : Str → Bool} {X : Cx} {m : Md} {e : Expr} {W : Wx} {a : C} (G : Good p k S.N sc fn X) (h : chkE S sc fn m (.dkeys a) e = true) (ha : ∀ x, chkE S sc fn (.v true) a x = true → PE X x (tv X.K true W (ev Φ a))) : PE X e (tvF X.K W (ev Φ (.dkeys a))) := by
  rw [chkE] at h
  cases q : call1 sc "list" e with
  | none => rw [q] at h; cases h
  | some x =>
    rw [q] at h
    exact sF_dkeys (G.ty1 L q (by decide +kernel) PyProof.Rows.boot_list (call_list_dT G.calm)) (ha x h)
theorem F_glist (L : Lib p k S Φ) {sc : Scope} {fn : Str → Bool} {X : Cx} {m : Md} {e : Expr} {W : Wx} {f : Nat} {es : Cs} (G : Good p k S.N sc fn X) (h : chkE S sc fn m (.glist f es) e = true) (ha : ∀ xs, chkA S sc fn es xs = true → PA X xs (tvs X.K W (evs Φ es))) : PE X e (tvF X.K W (ev Φ (.glist f es))) := by
  rw [chkE] at h
  cases q : call1 sc "list" e with
  | none => rw [q] at h; cases h
  | some x =>
    rw [q] at h
    dsimp only at h
    split at h
    · rename_i y z zs hy
      simp only [Bool.and_eq_true, decide_eq_true_eq] at h
      obtain ⟨⟨⟨⟨h1, h2⟩, h3⟩, h4⟩, h5⟩ := h
      obtain ⟨qn, pp, rfl, hg, hs⟩ := call1_of q
      obtain ⟨g1, g2, g3⟩ := G.gl hg
      obtain ⟨q2, p2, rfl⟩ := asCall_eq hy
      obtain ⟨y1, y2, y3⟩ := G.gl h3
      obtain ⟨fa, fd, ps, j, m1, m2, hj, hb, Fg⟩ := L.gn f h2
      have Fg' : GFn X.prog X.w X.K X.mg X.base j fa fd ps (spG X.K (Φ f)) := by rw [G.hP, G.hw, G.hK, G.hmg, G.hb]; exact Fg
      have hns : noStars zs = true ∧ asStar z = none := by
        unfold noStars at h4
        rw [List.all_cons, Bool.and_eq_true, Option.isNone_iff_eq_none] at h4
        exact ⟨h4.2, h4.1⟩
      have pg := pgen_call (E := E0) (p := q2) (pos' := p2) Fg' (G.room.mono (by omega)) y1 (by rw [G.hmg, h1]; exact m1) (by rw [G.hK]; exact m2) (by rw [G.hK]; exact hb) (.nil : Vals [] []) (ha _ h5) y2 (starEach_plain hns.2) (noStars_any hns.1)
      have base := pe_listG (p := qn) (pos := pp) pg (fun _ _ _ _ _ _ _ hc => by obtain ⟨_, _, _, _, _, _, _, _, _, _, _, _, z⟩ := hc; exact z.elim) (fun _ _ _ z => z.elim) (G.room.mono hj) g1 (by rw [G.hmg]; exact L.bi _ (by decide +kernel)) PyProof.Rows.boot_list g3 g2 rfl
      refine wPE base fun σ H Q ⟨g, ω, ρ, st, rel, hh⟩ => ?_
      rw [ev] at hh
      refine (bindF (P := RepL X.K) (f := evs Φ es) rel hh).mono fun xs H1 ⟨ω1, st1, ts, x1, rel1, pr, qq⟩ => ?_
      rw [List.append_nil]
      refine ⟨ω1, st1, ts, pr, rel1.cells, ?_⟩
      cases e1 : Φ f ts st1 with
      | exc x s => rw [e1] at qq; exact qq.elim
      | bad => rw [e1] at qq; exact qq.elim
      | ok t s =>
        rw [e1] at qq
        cases t with
        | lst ys =>
          intro out H' ω' y c r p0 hp
          have w := Grow.upd (ω := ω') (o := HO.lst out) hp
          refine qq (.ref p0) _ ω' (y.trans w.toE) (c.grow w) ⟨p0, out, ys, rfl, rfl, y.none hp, upd_same, fun z => ?_, fun z => ?_, r.mono w.ext⟩
          · obtain ⟨o, q⟩ := c.trk p0 z
            rw [hp] at q; cases q
          · obtain ⟨o, q⟩ := c.lstAt z
            rw [hp] at q; cases q
        | _ => exact qq.elim
    · cases h
theorem F_dcomp2 {sc : Scope} {fn : Str → Bool} {X : Cx} {m : Md} {e : Expr} {W : Wx} {k1 k2 v it it2 : C} {tg tg2 own own2 : List Nat} {bz : Bool} (G : Good p k S.N sc fn X) (h : chkE S sc fn m (.dcomp2 k1 k2 v tg it tg2 it2 own own2) e = true)
    (h1 : ∀ tp x, chkE S sc fn (.i true tp) it x = true → Snd X W Φ (.i true tp) it x)
    (h4 : ∀ {sc : Scope} {fn : Str → Bool} {X : Cx} {tp : Bool} {x : Expr}, Good p k S.N sc fn X → chkE S sc fn (.i false tp) it2 x = true → Snd X W0 Φ (.i false tp) it2 x)
    (h2 : ∀ {sc : Scope} {fn : Str → Bool} {X : Cx} {x : Expr}, Good p k S.N sc fn X → chkE S sc fn (.v false) k1 x = true → PE X x (tv X.K false W0 (ev Φ k1)))
    (h2' : ∀ {sc : Scope} {fn : Str → Bool} {X : Cx} {x : Expr}, Good p k S.N sc fn X → chkE S sc fn (.v false) k2 x = true → PE X x (tv X.K false W0 (ev Φ k2)))
    (h3 : ∀ {sc : Scope} {fn : Str → Bool} {X : Cx} {x : Expr}, Good p k S.N sc fn X → chkE S sc fn (.v false) v x = true → PE X x (tv X.K false W0 (ev Φ v))) : PE X e (tv X.K bz W (ev Φ (.dcomp2 k1 k2 v tg it tg2 it2 own own2))) := by
  rw [chkE] at h
  cases q : asDc2 e with
  | none => rw [q] at h; cases h
  | some u =>
    obtain ⟨⟨x1, x2, xv⟩, ⟨t, i⟩, ⟨t2, i2⟩, s⟩ := u
    rw [q] at h
    obtain ⟨kk, tp, pp, rfl⟩ := asDc2_eq q
    simp only [Bool.and_eq_true, Bool.not_eq_true', Option.isNone_iff_eq_none] at h
    obtain ⟨⟨⟨⟨⟨⟨⟨⟨⟨⟨⟨⟨⟨⟨⟨q1, qn⟩, q2⟩, q2b⟩, q2c⟩, q3⟩, q3b⟩, s1⟩, s2⟩, q4⟩, q5⟩, q4b⟩, q5b⟩, q6⟩, q6b⟩, q7⟩ := h
    have tup : ∀ {t : Expr}, (asTup t).isSome = true → ∃ es kk p2, t = Expr.Tuple es kk p2 := fun {t} z => by
      cases q2 : asTup t with
      | none => rw [q2] at z; cases z
      | some es => obtain ⟨kk, p2, rfl⟩ := asTup_eq q2; exact ⟨es, kk, p2, rfl⟩
    refine se_dcomp2 ?_ qn q2 q2b
    have base := Dc.pe_dc2 (X := X) (kx := .Tuple [x1, x2] kk tp) (vx := xv) (t0 := t) (i0 := i) (t1 := t2) (i1 := i2) (sc := s) (pos := pp) (own := own.map fun i => (S.N.getD i "", i)) (vs1 := own2) (wi := ti X.K true W (ev Φ it)) (g := gAsg X.K tg) (wi1 := ti X.K false W0 (ev Φ it2)) (g1 := gAsg X.K tg2) (tk := tTup (tCons (tv X.K false W0 (ev Φ k1)) (tCons (tv X.K false W0 (ev Φ k2)) tNil))) (tv := tv X.K false W0 (ev Φ v)) (by have := G.room.un; omega) G.calm (by rw [G.hN]; exact G.nd)
      (h1 _ i q4 t tup)
      (by rw [G.hN, G.sc]; exact blkOk_by q1)
      (fun j hj => by rw [sub_own]; simpa using List.all_eq_true.mp q2c j hj)
      (fun s' H' C cl fp => (G.blk s' H' s C cl fp).tg q5)
      (fun s' H' C cl fp => h4 (G.blk s' H' s C cl fp) q4b t2 tup)
      (fun s' H' C cl fp => (G.blk s' H' s C cl fp).tg q5b)
      (fun s' H' C cl fp => pe_tup (pa_cons (h2 (G.blk s' H' s C cl fp) q6) (pa_cons (h2' (G.blk s' H' s C cl fp) q6b) pa_nil (starEach_plain s2)) (starEach_plain s1)))
      (fun s' H' C cl fp => h3 (G.blk s' H' s C cl fp) q7)
      (fsi_of q3) (fun env => fsi_of q3b)
    rw [sub_own] at base
    exact base
theorem lookS_get {K : PySem.W.Frag} {ω : Wd} {H : Hp} {x : Str} : ∀ {fv : List (Str × V)} {ts : List PV} {t : PV}, RepL K ω H (fv.map (·.2)) ts → lookS (fv.map (·.1)) ts x = some t → ∃ v, fv.lookup x = some v ∧ Rep K ω H v t
  | [], _, _, .nil, h => by cases h
  | (k, v) :: fv, _, t, .cons h1 h2, h => by
    rw [List.map_cons, lookS] at h
    rw [List.lookup_cons]
    split at h
    · rename_i e
      cases h
      have e' : (x == k) = true := by rw [show k = x from e]; exact beq_self_eq_true x
      rw [e']
      exact ⟨v, rfl, h1⟩
    · rename_i e
      obtain ⟨w, e1, e2⟩ := lookS_get h2 h
      have e' : (x == k) = false := by simpa using fun z : x = k => e z.symm
      rw [e']
      exact ⟨w, e1, e2⟩
theorem lookup_no {x : Str} : ∀ {fv : List (Str × V)}, (fv.map (·.1)).contains x = false → fv.lookup x = none
  | [], _ => rfl
  | (k, v) :: fv, h => by
    rw [List.map_cons, List.contains_cons, Bool.or_eq_false_iff] at h
    rw [List.lookup_cons, h.1]
    exact lookup_no h.2
theorem objM {K : PySem.W.Frag} {ω : Wd} {H : Hp} {x : V} {cn : Str} {ks : List Str} {ts : List PV} {b : Bool} (h : RepM K b ω H x (.obj cn ks ts)) : ∃ a C dx fv, x = .ref a ∧ PySem.W.nsIn K mainGlobals cn = some (some (.ref C)) ∧ ω.S a ∧ H a = some (.ins C dx fv) ∧ ks = fv.map (·.1) ∧ RepL K ω H (fv.map (·.2)) ts := by
  rcases h with h | ⟨_, a, e, ⟨vs, ts', e1, e2, e3⟩, _⟩
  · cases h with
    | obj n s h r => exact ⟨_, _, _, _, rfl, n, s, h, rfl, r⟩
  · cases e1
theorem F_attr (L : Lib p k S Φ) {sc : Scope} {fn : Str → Bool} {X : Cx} {m : Md} {e : Expr} {W : Wx} {cn x : Str} {a : C} {bz : Bool} (G : Good p k S.N sc fn X) (h : chkE S sc fn m (.attr cn a x) e = true) (ha : ∀ y, chkE S sc fn (.v false) a y = true → PE X y (tv X.K false W (ev Φ a))) : PE X e (tv X.K bz W (ev Φ (.attr cn a x))) := by
  rw [chkE] at h
  cases q : asAtt e with
  | none => rw [q] at h; cases h
  | some u =>
    obtain ⟨o, n⟩ := u
    rw [q] at h
    obtain ⟨pp, rfl⟩ := asAtt_eq q
    simp only [Bool.and_eq_true, decide_eq_true_eq] at h
    obtain ⟨⟨⟨rfl, h1⟩, h2⟩, h3⟩ := h
    obtain ⟨C, c1, c2, c3⟩ := L.cls cn n h2
    refine wPE (pe_fld (ha o h3) (plainO_of h1)) fun σ H Q ⟨g, ω, ρ, st, rel, hh⟩ => ?_
    rw [ev] at hh
    refine (bindG (P := RepM X.K false) rel hh).mono fun y H1 ⟨ω1, st1, t, x1, rel1, pp, qq⟩ => ?_
    obtain ⟨z, ez, qz⟩ := of_post rel1 qq
    unfold attrV at ez
    split at ez
    · split at ez
      · rename_i ec
        subst ec
        obtain ⟨a', C', dx, fv, rfl, n1, s1, h4, rfl, r⟩ := objM pp
        rw [G.hK, c1] at n1
        cases n1
        obtain ⟨v, e1, e2⟩ := lookS_get r ez
        exact ⟨a', C, dx, fv, v, rfl, h4, by rw [G.hK]; exact c2, by rw [G.hK]; exact c3, e1, qz _ _ ω1 (Grow.refl _ _) e2⟩
      · cases ez
    · cases ez
theorem nil_args {sc : Scope} {fn : Str → Bool} {W : Wx} {es : Cs} {K : PySem.W.Frag} {σ : L2.St} {H : Hp} {Q : List V → Hp → Prop} (h : chkA S sc fn es [] = true) (z : tvs K W (evs Φ es) σ H Q) : Q [] H := by
  cases es with
  | nil =>
    obtain ⟨g, ω, ρ, st, rel, q⟩ := z
    rw [evs] at q
    exact postOk rel q .nil
  | cons a r => exact Bool.noConfusion (show false = true from h)
  | star a r => exact Bool.noConfusion (show false = true from h)
theorem F_meth (L : Lib p k S Φ) {sc : Scope} {fn : Str → Bool} {X : Cx} {e : Expr} {W : Wx} {cn mm : Str} {f : Nat} {a : C} {es : Cs} {bz : Bool} (G : Good p k S.N sc fn X) (h : (match asMth e with
    | some (o, n, xs) => decide (n = mm) && decide (S.nm f = mm) && decide (S.cn f = cn) && S.mt f && plainO o && noStars xs && decide (xs.length < 29) && chkE S sc fn (.v false) a o && chkA S sc fn es xs
    | none => false) = true) (ha : ∀ y, chkE S sc fn (.v false) a y = true → PE X y (tv X.K false W (ev Φ a))) (hs : ∀ ys, chkA S sc fn es ys = true → PA X ys (tvs X.K W (evs Φ es))) : PE X e (tv X.K bz W (ev Φ (.meth cn mm f a es))) := by
  cases q : asMth e with
  | none => rw [q] at h; cases h
  | some u =>
    obtain ⟨o, n, xs⟩ := u
    rw [q] at h
    obtain ⟨ap, cp, rfl, hl⟩ := asMth_eq q
    simp only [Bool.and_eq_true, decide_eq_true_eq] at h
    obtain ⟨⟨⟨⟨⟨⟨⟨⟨rfl, h1⟩, h2⟩, h3⟩, h4⟩, h5⟩, h6⟩, h7⟩, h8⟩ := h
    obtain ⟨C, fa, c1, c2, c3, F⟩ := L.mth f h3
    rw [h1] at c3
    rw [h2] at c1
    have F' : FnG p k fa (spOf X.K false (Φ f)) := by rw [G.hK]; exact F
    refine wPE (pe_methG F' ⟨G.hP, G.hw, G.hK, G.hmg, G.hb⟩ G.room G.gd (ha o h7) (by rw [G.hK]; exact c2) (by rw [G.hK]; exact c3) (hs xs h8) (plainO_of h4) h5 h6 hl (fun hz σ H Q z => nil_args (hz ▸ h8) z)) fun σ H Q ⟨g, ω, ρ, st, rel, hh⟩ => ?_
    rw [ev] at hh
    refine (bindG (P := RepM X.K false) rel hh).mono fun y H1 ⟨ω1, st1, t, x1, rel1, pp, qq⟩ => ?_
    cases ho : isObj cn n t with
    | false => rw [ho] at qq; exact qq.elim
    | true =>
      rw [ho, if_pos rfl] at qq
      cases t with
      | obj c' ks ts =>
        unfold isObj at ho
        rw [Bool.and_eq_true, decide_eq_true_eq, Bool.not_eq_true'] at ho
        obtain ⟨rfl, ho2⟩ := ho
        obtain ⟨a', C', dx, fv, rfl, n1, s1, h9, rfl, r⟩ := objM pp
        have n2 := n1
        rw [G.hK, c1] at n2
        cases n2
        refine ⟨a', dx, fv, rfl, h9, lookup_no ho2, (bindG (P := RepL X.K) (f := evs Φ es) rel1 qq).mono fun vs H2 ⟨ω2, st2, us, x2, rel2, p2, q2⟩ => ?_⟩
        refine ⟨ω2, st2, _ :: us, .cons (RepM.rep (pp.extE x2 rel1.cells)) p2, rel2.cells, ?_⟩
        cases e1 : Φ f (.obj c' (fv.map (·.1)) ts :: us) st2 with
        | ok t s => rw [e1] at q2; exact fun v H' ω' y c r => q2 v H' ω' y c (.inl r)
        | exc x s => rw [e1] at q2; exact q2.elim
        | bad => rw [e1] at q2; exact q2.elim
      | _ => cases ho
theorem F_make (L : Lib p k S Φ) {sc : Scope} {fn : Str → Bool} {X : Cx} {m : Md} {e : Expr} {W : Wx} {f : Nat} {es : Cs} {bz : Bool} (G : Good p k S.N sc fn X) (h : chkE S sc fn m (.make f es) e = true) (hs : ∀ ys, chkA S sc fn es ys = true → PA X ys (tvs X.K W (evs Φ es))) : PE X e (tv X.K bz W (ev Φ (.make f es))) := by
  rw [chkE] at h
  split at h
  · rename_i x y ys q
    obtain ⟨qq, pp, rfl⟩ := asCall_eq q
    simp only [Bool.and_eq_true, decide_eq_true_eq] at h
    obtain ⟨⟨⟨⟨h1, h2⟩, h3⟩, h4⟩, h5⟩ := h
    obtain ⟨g1, g2, g3⟩ := G.gl h3
    obtain ⟨C, fa, j, c1, c2, c3, c4, F⟩ := L.mkc f h2
    have hn : asStar y = none ∧ noStars ys = true := by
      unfold noStars at h4
      rw [List.all_cons, Bool.and_eq_true, Option.isNone_iff_eq_none] at h4
      exact h4
    have F' : FnG { p with gq := false } j fa (spI X.K (S.cn f) (Φ f)) := by rw [G.hK]; exact F
    refine wPE (pe_makeG (p := p) F' ⟨G.hP, G.hw, G.hK, G.hmg, G.hb⟩ (G.room.mono c4) (by rw [G.hK]; exact c3) g1 (by rw [G.hmg, h1]; exact c2) (hs _ h5) g2 hn.1 hn.2) fun σ H Q ⟨g, ω, ρ, st, rel, hh⟩ => ?_
    rw [ev] at hh
    refine (bindG (P := RepL X.K) (f := evs Φ es) rel hh).mono fun vs H1 ⟨ω1, st1, ts, x1, rel1, p1, q1⟩ => ?_
    intro a dx ha hd hne
    refine ⟨a, C, dx, vs, H1, ω1, st1, ts, rfl, by rw [G.hK]; exact c1, ha, hd, hne, rfl, p1, rel1.cells, ?_⟩
    cases e1 : Φ f ts st1 with
    | ok t s => rw [e1] at q1; exact fun H' ω' y c r => ⟨rfl, q1 _ H' ω' y c (.inl r)⟩
    | exc x s => rw [e1] at q1; exact q1.elim
    | bad => rw [e1] at q1; exact q1.elim
  · cases h
theorem perm_rep {K : PySem.W.Frag} {ω : Wd} {H : Hp} {vs : List V} {ts : List PV} (r : RepL K ω H vs ts) : ∀ {pm : List Nat} {us : List PV}, permA ts pm = some us → ∃ ws, permA vs pm = some ws ∧ RepL K ω H ws us
  | [], _, h => by cases h; exact ⟨[], rfl, .nil⟩
  | i :: pm, us, h => by
    unfold permA at h
    split at h
    · rename_i t ut e1 e2
      cases h
      obtain ⟨v, f1, f2⟩ := r.get e1
      obtain ⟨ws, g1, g2⟩ := perm_rep r e2
      refine ⟨v :: ws, ?_, .cons f2 g2⟩
      unfold permA
      rw [f1, g1]
    · cases h
theorem F_callK (L : Lib p k S Φ) {sc : Scope} {fn : Str → Bool} {X : Cx} {m : Md} {e : Expr} {W : Wx} {f : Nat} {ks : List Str} {pm : List Nat} {es : Cs} {bz : Bool} (G : Good p k S.N sc fn X) (h : chkE S sc fn m (.callK f ks pm es) e = true)
    (hs : ∀ kws : List Keyword, chkA S sc fn es (kws.map (·.value)) = true → noStars (kws.map (·.value)) = true → PK X kws (tvs X.K W (evs Φ es))) : PE X e (tv X.K bz W (ev Φ (.callK f ks pm es))) := by
  rw [chkE] at h
  cases q : asCallK e with
  | none => rw [q] at h; cases h
  | some u =>
    obtain ⟨x, kws⟩ := u
    rw [q] at h
    obtain ⟨qq, pp, rfl⟩ := asCallK_eq q
    simp only [Bool.and_eq_true, decide_eq_true_eq] at h
    obtain ⟨⟨⟨⟨⟨h1, h2⟩, h3⟩, h4⟩, h5⟩, h6⟩ := h
    obtain ⟨g1, g2, g3⟩ := G.gl h3
    obtain ⟨fa, m1, m2, F⟩ := L.kwc f ks pm h2
    have F' : FnK p k fa ks pm (spOf X.K false (Φ f)) := by rw [G.hK]; exact F
    have pk := hs kws h5 h6
    refine wPE (pe_callK0 F' ⟨G.hP, G.hw, G.hK, G.hmg, G.hb⟩ G.room G.gd (by rw [G.hK]; exact m2) g1 (by rw [G.hmg, h1]; exact m1) pk g2 h4) fun σ H Q ⟨g, ω, ρ, st, rel, hh⟩ => ?_
    rw [ev] at hh
    refine (bindG (P := RepL X.K) (f := evs Φ es) rel hh).mono fun vs H1 ⟨ω1, st1, ts, x1, rel1, p1, q1⟩ => ?_
    by_cases hl : ts.length = ks.length
    rotate_left
    · rw [if_neg hl] at q1; exact q1.elim
    rw [if_pos hl] at q1
    cases e2 : permA ts pm with
    | none => rw [e2] at q1; exact q1.elim
    | some us =>
      rw [e2] at q1
      dsimp only at q1
      obtain ⟨ws, w1, w2⟩ := perm_rep p1 e2
      refine ⟨p1.length.trans hl, ws, w1, ω1, st1, us, w2, rel1.cells, ?_⟩
      · cases e1 : Φ f us st1 with
        | ok t s => rw [e1] at q1; exact fun v H' ω' y c r => q1 v H' ω' y c (.inl r)
        | exc x s => rw [e1] at q1; exact q1.elim
        | bad => rw [e1] at q1; exact q1.elim
theorem lastM {b c : Expr} {o o' : CmpOp} (h : isSet c = false) : lastMarks [o, o'] [b, c] = false := by
  cases c <;> first | (with_unfolding_all rfl) | (simp [isSet] at h; done)
theorem Good.glob {sc : Scope} {fn : Str → Bool} {X : Cx} {e : Expr} (G : Good p k S.N sc fn X) {x : Str} {u : Value} {v : V} (h : asName e = some x) (hg : glB sc x = true) (hm : p.mg x = some u) (r : RelV v u) : PE X e (tC v) := by
  obtain ⟨pp, rfl⟩ := asName_eq h
  obtain ⟨g1, g2, g3⟩ := G.gl hg
  exact pe_glob g1 (by rw [G.hmg]; exact hm) r g2
theorem fmt_bind (r : R PV) : ((r.bind fun x st => match fmtV Str.empty x with
    | some acc' => R.ok acc' st
    | none => .bad).bind fun s st => R.ok (PV.str s) st) = r.bind fun x st => match fmtV Str.empty x with
    | some acc' => R.ok (PV.str acc') st
    | none => .bad := by
  cases r with
  | ok x s =>
    simp only [R.bind_ok]
    cases fmtV Str.empty x <;> rfl
  | exc x s => rfl
  | bad => rfl
theorem F_cat {sc : Scope} {fn : Str → Bool} {X : Cx} {m : Md} {e : Expr} {W : Wx} {a b : C} (h : chkE S sc fn m (.cat a b) e = true) (ha : ∀ x, chkE S sc fn (.v true) a x = true → PE X x (tv X.K true W (ev Φ a))) (hb : ∀ x, chkE S sc fn (.v true) b x = true → PE X x (tv X.K true W (ev Φ b))) : PE X e (tvF X.K W (ev Φ (.cat a b))) := by
  rw [chkE] at h
  cases q : asBin e with
  | none => rw [q] at h; cases h
  | some t =>
    obtain ⟨l, o, r⟩ := t
    rw [q] at h
    obtain ⟨pp, rfl⟩ := asBin_eq q
    simp only [Bool.and_eq_true, decide_eq_true_eq] at h
    obtain ⟨⟨rfl, h1⟩, h2⟩ := h
    exact sF_cat (fun ta tb ha hb => pe_op op_cat ha hb) (ha l h1) (hb r h2)
theorem F_rev {sc : Scope} {fn : Str → Bool} {X : Cx} {m : Md} {e : Expr} {W : Wx} {a : C} (h : chkE S sc fn m (.rev a) e = true) (ha : ∀ x, chkE S sc fn (.v true) a x = true → PE X x (tv X.K true W (ev Φ a))) : PE X e (tvF X.K W (ev Φ (.rev a))) := by
  rw [chkE] at h
  cases q : asRev e with
  | none => rw [q] at h; cases h
  | some x =>
    rw [q] at h
    obtain ⟨kk, p1, p2, p3, pp, rfl⟩ := asRev_eq q
    refine sF1 (v := fun _ => revV) (r := fun x H Q => ∃ a xs, x = .ref a ∧ SqL X.K H a xs ∧ ∀ p, H p = none → Q (.ref p) (upd H p (.lst xs.reverse))) (fun ta hta => pe_revL hta) (ha x h) ?_
    intro st x t z ω H Q c hx hv q
    cases t with
    | lst ts =>
      cases hv
      obtain ⟨a, vs, rfl, ha, ra⟩ := hx.lst
      exact ⟨a, vs, rfl, .inl (.inl ha), q _ _ rfl ra.reverse⟩
    | _ => cases hv
theorem F_comp2 {sc : Scope} {fn : Str → Bool} {X : Cx} {m : Md} {e : Expr} {W : Wx} {elt it it2 : C} {tg tg2 own own2 : List Nat} {ifs : Cs} (G : Good p k S.N sc fn X) (h : chkE S sc fn m (.comp2 elt tg it tg2 it2 ifs own own2) e = true)
    (h1 : ∀ tp x, chkE S sc fn (.i true tp) it x = true → Snd X W Φ (.i true tp) it x)
    (h4 : ∀ {sc : Scope} {fn : Str → Bool} {X : Cx} {tp : Bool} {x : Expr}, Good p k S.N sc fn X → chkE S sc fn (.i false tp) it2 x = true → Snd X W0 Φ (.i false tp) it2 x)
    (h2 : ∀ {sc : Scope} {fn : Str → Bool} {X : Cx} {fs : List Expr}, Good p k S.N sc fn X → chkF S sc fn ifs fs = true → PTs X fs (tvbb X.K W0 (evt Φ ifs)))
    (h3 : ∀ {sc : Scope} {fn : Str → Bool} {X : Cx} {x : Expr}, Good p k S.N sc fn X → chkE S sc fn (.v false) elt x = true → PE X x (tv X.K false W0 (ev Φ elt))) : PE X e (tvF X.K W (ev Φ (.comp2 elt tg it tg2 it2 ifs own own2))) := by
  rw [chkE] at h
  cases q : asLc2 e with
  | none => rw [q] at h; cases h
  | some u =>
    obtain ⟨x, ⟨t, i⟩, ⟨t2, i2, fs⟩, s⟩ := u
    rw [q] at h
    obtain ⟨pp, rfl⟩ := asLc2_eq q
    simp only [Bool.and_eq_true, Bool.not_eq_true'] at h
    obtain ⟨⟨⟨⟨⟨⟨⟨⟨⟨⟨⟨⟨q1, qn⟩, q2⟩, q2b⟩, q2c⟩, q3⟩, q3b⟩, q4⟩, q5⟩, q4b⟩, q5b⟩, q6⟩, q7⟩ := h
    have tup : ∀ {t : Expr}, (asTup t).isSome = true → ∃ es kk p2, t = Expr.Tuple es kk p2 := fun {t} z => by
      cases q2 : asTup t with
      | none => rw [q2] at z; cases z
      | some es => obtain ⟨kk, p2, rfl⟩ := asTup_eq q2; exact ⟨es, kk, p2, rfl⟩
    refine sF_comp2 ?_ qn q2 q2b
    have base := pe_lc2 (X := X) (elt := x) (tg := t) (iter := i) (ifs := []) (tg1 := t2) (iter1 := i2) (ifs1 := fs) (scope := s) (pos := pp) (own := own.map fun i => (S.N.getD i "", i)) (vs1 := own2) (wi := ti X.K true W (ev Φ it)) (g := gAsg X.K tg) (tt := tYes) (wi1 := ti X.K false W0 (ev Φ it2)) (g1 := gAsg X.K tg2) (tt1 := tvbb X.K W0 (evt Φ ifs)) (te := tv X.K false W0 (ev Φ elt)) G.calm (by rw [G.hN]; exact G.nd)
      (h1 _ i q4 t tup)
      (by rw [G.hN, G.sc]; exact blkOk_by q1)
      (fun j hj => by rw [sub_own]; simpa using List.all_eq_true.mp q2c j hj)
      (fun s' H' C cl fp => (G.blk s' H' s C cl fp).tg q5)
      (fun s' H' C cl fp => pts_nil)
      (fun s' H' C cl fp => h4 (G.blk s' H' s C cl fp) q4b t2 tup)
      (fun s' H' C cl fp => (G.blk s' H' s C cl fp).tg q5b)
      (fun s' H' C cl fp => h2 (G.blk s' H' s C cl fp) q6)
      (fun s' H' C cl fp => h3 (G.blk s' H' s C cl fp) q7)
      (fsi_of q3) (fun env => fsi_of q3b)
    rw [sub_own] at base
    exact base
theorem kget_w {K : PySem.W.Frag} {w : World} {W : Wx} {bz : Bool} {g : Nat} {fk : En → Cel → R PV} {a : Addr} {es : Array DictEntry} {n : Nat} {T : List (Str × PV)} (D : KDict K w a es n)
    (hT : ∀ x, ∃ r, PySem.W.nsIn K a x = some r ∧ r.isSome = (T.lookup x).isSome ∧ ∀ t, T.lookup x = some t → ∃ u v, r = some u ∧ RelV v u ∧ ∀ ω H, Rep K ω H v t)
    (hΦ : ∀ ts st t st', Φ (2000 + g) ts st = .ok t st' → ∃ x, ts = [.str x] ∧ T.lookup x = some t ∧ st' = st) :
    ∀ σ H Q, tv K bz W (fun ρ st => (fk ρ st).bind fun x st => (Φ (2000 + g) [x] st).noexc) σ H Q → tOp (rIxD K w) (tC (.ref a)) (tv K true W fk) σ H Q := by
  intro σ H Q ⟨gg, ω, ρ, st, rel, h⟩
  refine (bindG (P := RepM K true) (f := fk) rel h).mono fun x H1 ⟨ω1, st1, t, x1, rel1, p, q⟩ => ?_
  cases e1 : Φ (2000 + g) [t] st1 with
  | ok r s =>
    rw [e1] at q
    obtain ⟨x', e2, e3, rfl⟩ := hΦ _ _ _ _ e1
    cases e2
    obtain ⟨r', n1, n2, n3⟩ := hT x'
    obtain ⟨u, v, rfl, rv, rp⟩ := n3 _ e3
    exact ⟨a, x', v, rfl, p.str, ⟨es, n, u, D.at_, D.lit, n1, rv⟩, q v H1 ω1 (ExtE.refl _ _) rel1.cells (.inl (rp _ _))⟩
  | exc x s => rw [e1] at q; exact q.elim
  | bad => rw [e1] at q; exact q.elim
theorem kin_w {K : PySem.W.Frag} {W : Wx} {bz : Bool} {g : Nat} {neg : Bool} {fk : En → Cel → R PV} {a : Addr} {T : List (Str × PV)}
    (hT : ∀ x, ∃ r, PySem.W.nsIn K a x = some r ∧ r.isSome = (T.lookup x).isSome ∧ ∀ t, T.lookup x = some t → ∃ u v, r = some u ∧ RelV v u ∧ ∀ ω H, Rep K ω H v t)
    (hΦ : ∀ ts st t st', Φ (3000 + g) ts st = .ok t st' → ∃ x, ts = [.str x] ∧ t = .bl (T.lookup x).isSome ∧ st' = st) :
    ∀ σ H Q, tv K bz W (fun ρ st => (fk ρ st).bind fun x st => (Φ (3000 + g) [x] st).noexc.bind fun b st => if neg then R.of (notV b) st else .ok b st) σ H Q →
      tOp (fun x y H Q => ∃ (z : Str) (r : Option Value), x = .str z ∧ y = .ref a ∧ PySem.W.nsIn K a z = some r ∧ Q (.bl (if neg then !r.isSome else r.isSome)) H) (tv K true W fk) (tC (.ref a)) σ H Q := by
  intro σ H Q ⟨gg, ω, ρ, st, rel, h⟩
  refine (bindG (P := RepM K true) (f := fk) rel h).mono fun x H1 ⟨ω1, st1, t, x1, rel1, p, q⟩ => ?_
  cases e1 : Φ (3000 + g) [t] st1 with
  | ok r s =>
    rw [e1] at q
    obtain ⟨x', e2, rfl, rfl⟩ := hΦ _ _ _ _ e1
    cases e2
    obtain ⟨r', n1, n2, n3⟩ := hT x'
    refine ⟨x', r', p.str, rfl, n1, ?_⟩
    rw [n2]
    cases neg with
    | true => exact q _ H1 ω1 (ExtE.refl _ _) rel1.cells (.inl (.bl _))
    | false => exact q _ H1 ω1 (ExtE.refl _ _) rel1.cells (.inl (.bl _))
  | exc x s => rw [e1] at q; exact q.elim
  | bad => rw [e1] at q; exact q.elim
theorem Good.kin (L : Lib p k S Φ) {sc : Scope} {fn : Str → Bool} {X : Cx} {W : Wx} {neg : Bool} {g : Nat} {kc : C} {l r : Expr} (G : Good p k S.N sc fn X) (hr : asName r = some (S.gn g)) (ht : S.tk g = true) (hg : glB sc (S.gn g) = true) (hk : PE X l (tv X.K true W (ev Φ kc))) :
    ∃ rr, OpR X (compareOp (if neg then .NotIn else .In)) rr ∧ PE X r (tC (.ref (Classical.choose (L.tb g ht)))) ∧ ∀ bz σ H Q, tv X.K bz W (ev Φ (.kin neg g kc)) σ H Q → tOp rr (tv X.K true W (ev Φ kc)) (tC (.ref (Classical.choose (L.tb g ht)))) σ H Q := by
  have sp := Classical.choose_spec (L.tb g ht)
  obtain ⟨es, n, T, h1, h2, h3, h4, h5⟩ := sp
  refine ⟨fun x y H Q => ∃ (z : Str) (r : Option Value), x = .str z ∧ y = .ref (Classical.choose (L.tb g ht)) ∧ PySem.W.nsIn X.K (Classical.choose (L.tb g ht)) z = some r ∧ Q (.bl (if neg then !r.isSome else r.isSome)) H, ?_, G.glob hr hg h1 rfl, fun bz => kin_w (by rw [G.hK]; exact h3) h5⟩
  have D : KDict X.K X.w (Classical.choose (L.tb g ht)) es n := by rw [G.hK, G.hw]; exact h2
  cases neg with
  | true => exact op_notIn_kd D
  | false => exact op_in_kd D
set_option maxHeartbeats 4000000 in
mutual
theorem soundE (L : Lib p k S Φ) : ∀ (c : C) {sc : Scope} {fn : Str → Bool} {X : Cx} {m : Md} {e : Expr} {W : Wx}, Good p k S.N sc fn X → chkE S sc fn m c e = true → Snd X W Φ m c e
  | .var i, sc, fn, X, m, e, W, G, h => by
    rw [chkE] at h
    exact sndOf (se_var (G.var h))
  | .bor i, sc, fn, X, m, e, W, G, h => by
    rw [chkE, Bool.and_eq_true] at h
    refine sndOf ?_
    rw [h.1]
    exact se_bor (G.var h.2)
  | .int i, sc, fn, X, m, e, W, G, h => by
    rw [chkE, decide_eq_true_eq] at h
    obtain ⟨kk, pp, rfl⟩ := asConst_eq h
    exact sndOf (se_c (fun _ _ => .int i) pe_int)
  | .str s, sc, fn, X, m, e, W, G, h => by
    rw [chkE, decide_eq_true_eq] at h
    obtain ⟨kk, pp, rfl⟩ := asConst_eq h
    exact sndOf (se_c (fun _ _ => .str s) pe_str)
  | .bl b, sc, fn, X, m, e, W, G, h => by
    rw [chkE, decide_eq_true_eq] at h
    obtain ⟨kk, pp, rfl⟩ := asConst_eq h
    exact sndOf (se_c (fun _ _ => .bl b) pe_bl)
  | .non, sc, fn, X, m, e, W, G, h => by
    rw [chkE, decide_eq_true_eq] at h
    obtain ⟨kk, pp, rfl⟩ := asConst_eq h
    exact sndOf (se_c (fun _ _ => .non) pe_non)
  | .bin op a b, sc, fn, X, m, e, W, G, h => by
    rw [chkE] at h
    cases q : asBin e with
    | none => rw [q] at h; cases h
    | some t =>
      obtain ⟨l, o, r⟩ := t
      rw [q] at h
      obtain ⟨pp, rfl⟩ := asBin_eq q
      simp only [Bool.and_eq_true, decide_eq_true_eq] at h
      obtain ⟨⟨rfl, h1⟩, h2⟩ := h
      exact sndOf (se2 (v := fun _ => binV op) (fun ta tb ha hb => pe_op (opr_bin op) ha hb) (soundE L a G h1) (soundE L b G h2) (vr_bin op))
  | .neg a, sc, fn, X, m, e, W, G, h => by
    rw [chkE] at h
    cases q : asUn e with
    | none => rw [q] at h; cases h
    | some t =>
      obtain ⟨o, x⟩ := t
      rw [q] at h
      obtain ⟨pp, rfl⟩ := asUn_eq q
      simp only [Bool.and_eq_true, decide_eq_true_eq] at h
      obtain ⟨rfl, h1⟩ := h
      exact sndOf (se1 (v := fun _ => negV) (fun ta ha => pe_un un_neg ha) (soundE L a G h1) vr_neg)
  | .not a, sc, fn, X, m, e, W, G, h => by
    rw [chkE] at h
    cases q : asUn e with
    | none => rw [q] at h; cases h
    | some t =>
      obtain ⟨o, x⟩ := t
      rw [q] at h
      obtain ⟨pp, rfl⟩ := asUn_eq q
      simp only [Bool.and_eq_true, decide_eq_true_eq] at h
      obtain ⟨rfl, h1⟩ := h
      refine sndOf (se1 (v := fun _ => notV) (r := fun x H Q => ∃ c, x = .bl c ∧ Q (.bl (!c)) H) (fun ta ha => pe_not ha) (soundE L a G h1) ?_)
      intro st x t z ω H Q c hx hv qq
      cases t with
      | bl c => cases hv; exact ⟨c, hx.bl, qq _ _ ω (Grow.refl _ _) (.bl _)⟩
      | _ => cases hv
  | .cmp op a b, sc, fn, X, m, e, W, G, h => by
    rw [chkE] at h
    cases q : asCmp e with
    | none => rw [q] at h; cases h
    | some t =>
      obtain ⟨l, o, r⟩ := t
      rw [q] at h
      obtain ⟨pp, rfl⟩ := asCmp_eq q
      simp only [Bool.and_eq_true, decide_eq_true_eq, Bool.not_eq_true'] at h
      obtain ⟨⟨⟨rfl, h0⟩, h1⟩, h2⟩ := h
      exact sndOf (se2 (v := fun _ x y => (cmpV op x y).map .bl) (fun ta tb ha hb => pe_cmpR (opr_cmp (by have := G.room.un; omega) op) ha hb (marks_of h0)) (soundE L a G h1) (soundE L b G h2) (vr_cmp op))
  | .and a b, sc, fn, X, m, e, W, G, h => by
    rw [chkE] at h
    split at h
    · rename_i x y pp q
      obtain rfl := asBool_eq q
      rw [Bool.and_eq_true] at h
      exact sndOf (se_and (fun ta tb ha hb => pe_and ha (pe_one hb)) (soundE L a G h.1) (soundE L b G h.2))
    · rename_i x y z r pp q
      obtain rfl := asBool_eq q
      rw [Bool.and_eq_true] at h
      exact sndOf (se_and (fun ta tb ha hb => pe_and ha hb) (soundE L a G h.1) (soundE L b G h.2))
    · cases h
  | .or a b, sc, fn, X, m, e, W, G, h => by
    rw [chkE] at h
    split at h
    · rename_i x y pp q
      obtain rfl := asBool_eq q
      rw [Bool.and_eq_true] at h
      exact sndOf (se_or (fun ta tb ha hb => pe_or ha (pe_one hb)) (soundE L a G h.1) (soundE L b G h.2))
    · rename_i x y z r pp q
      obtain rfl := asBool_eq q
      rw [Bool.and_eq_true] at h
      exact sndOf (se_or (fun ta tb ha hb => pe_or ha hb) (soundE L a G h.1) (soundE L b G h.2))
    · cases h
  | .ite t a b, sc, fn, X, m, e, W, G, h => by
    rw [chkE] at h
    cases q : asIf e with
    | none => rw [q] at h; cases h
    | some u =>
      obtain ⟨c, x, y⟩ := u
      rw [q] at h
      obtain ⟨pp, rfl⟩ := asIf_eq q
      simp only [Bool.and_eq_true] at h
      exact sndOf (se_ite (fun tt ta tb hc ha hb => pe_ifExp hc ha hb) (soundT L t G h.1.1) (soundE L a G h.1.2) (soundE L b G h.2))
  | .tup es, sc, fn, X, m, e, W, G, h => by
    rw [chkE] at h
    cases q : asTup e with
    | none => rw [q] at h; cases h
    | some xs =>
      rw [q] at h
      obtain ⟨kk, pp, rfl⟩ := asTup_eq q
      exact sndOf (se_tup (fun ta ha => pe_tup ha) (soundA L es G h))
  | .lst es, sc, fn, X, m, e, W, G, h => sndOf (sF_v (F_lst h fun xs hx => soundA L es G hx))
  | .call f es, sc, fn, X, m, e, W, G, h => by
    rw [chkE] at h
    cases q : asCall e with
    | none => rw [q] at h; cases h
    | some u =>
      obtain ⟨x, xs⟩ := u
      rw [q] at h
      simp only [Bool.and_eq_true, decide_eq_true_eq, Bool.not_eq_true'] at h
      obtain ⟨⟨⟨⟨⟨h0, h1⟩, h2⟩, h3⟩, h4⟩, h5⟩ := h
      exact sndOf ((G.call L q h1 h2 h3 h5 (fun z => by subst z; cases es <;> first | rfl | exact Bool.noConfusion (show false = true from h4)) (soundA L es G h4)).1 h0 _)
  | .len a, sc, fn, X, m, e, W, G, h => by
    rw [chkE] at h
    cases q : call1 sc "len" e with
    | none => rw [q] at h; cases h
    | some x =>
      rw [q] at h
      exact sndOf (se1 (v := fun _ => lenV) (G.bi1 L q (by decide +kernel) boot_len cr_lenV) (soundE L a G h) vr_len)
  | .toInt a, sc, fn, X, m, e, W, G, h => by
    rw [chkE] at h
    cases q : call1 sc "int" e with
    | none => rw [q] at h; cases h
    | some x =>
      rw [q] at h
      exact sndOf (se1 (v := fun _ => toIntV) (G.ty1 L q (by decide +kernel) PyProof.Rows.boot_int call_int1) (soundE L a G h) vr_toInt)
  | .tupleOf a, sc, fn, X, m, e, W, G, h => by
    rw [chkE] at h
    cases q : call1 sc "tuple" e with
    | none => rw [q] at h; cases h
    | some x =>
      rw [q] at h
      exact sndOf (se1 (v := fun _ => tupleV) (G.ty1 L q (by decide +kernel) PyProof.Rows.boot_tuple (cr_tupV G.calm)) (soundE L a G h) vr_tupleOf)
  | .listOf a, sc, fn, X, m, e, W, G, h => sndOf (sF_v (F_listOf L G h fun x hx => soundE (m := .v true) L a G hx))
  | .cat a b, sc, fn, X, m, e, W, G, h => sndOf (sF_v (F_cat h (fun x hx => soundE (m := .v true) L a G hx) (fun x hx => soundE (m := .v true) L b G hx)))
  | .isa2 a t u, sc, fn, X, m, e, W, G, h => by
    rw [chkE] at h
    cases q : call2 sc "isinstance" e with
    | none => rw [q] at h; cases h
    | some r =>
      obtain ⟨x, y⟩ := r
      rw [q] at h
      dsimp only at h
      split at h
      · rename_i y1 y2 hy
        simp only [Bool.and_eq_true, decide_eq_true_eq] at h
        exact sndOf (G.isi2 L q hy h.1.1.1.1 h.1.1.1.2 h.1.1.2 h.1.2 (soundE (m := .v true) L a G h.2))
      · cases h
  | .dgetD a b, sc, fn, X, m, e, W, G, h => by
    rw [chkE] at h
    cases q : asMeth e with
    | none => rw [q] at h; cases h
    | some t =>
      obtain ⟨o, n, x⟩ := t
      rw [q] at h
      obtain ⟨ap, cp, rfl, hl⟩ := asMeth_eq q
      simp only [Bool.and_eq_true, decide_eq_true_eq, Option.isNone_iff_eq_none] at h
      obtain ⟨⟨⟨⟨rfl, h1⟩, h2⟩, h3⟩, h4⟩ := h
      exact sndOf (se_dgetD (fun ta tb ha hb => pe_dget1 (by have := G.room.un; omega) ha hb ⟨plainO_of h1, by rw [starEach_plain h2]; rfl, hl, by rw [starEach_plain h2]; rfl⟩) (soundE (m := .v true) L a G h3) (soundE (m := .v true) L b G h4))
  | .revT a, sc, fn, X, m, e, W, G, h => by
    rw [chkE] at h
    cases q : asRev e with
    | none => rw [q] at h; cases h
    | some x =>
      rw [q] at h
      obtain ⟨kk, p1, p2, p3, pp, rfl⟩ := asRev_eq q
      exact sndOf (se1 (v := fun _ => revTV) (fun ta hta => pe_revT hta) (soundE (m := .v true) L a G h) vr_revT)
  | .isa a t, sc, fn, X, m, e, W, G, h => by
    rw [chkE] at h
    cases q : call2 sc "isinstance" e with
    | none => rw [q] at h; cases h
    | some u =>
      obtain ⟨x, y⟩ := u
      rw [q] at h
      simp only [Bool.and_eq_true, decide_eq_true_eq] at h
      exact sndOf (G.isi L q h.1.1 h.1.2 (soundE L a G h.2))
  | .all a, sc, fn, X, m, e, W, G, h => by
    rw [chkE] at h
    cases q : call1 sc "all" e with
    | none => rw [q] at h; cases h
    | some x =>
      rw [q] at h
      exact sndOf (se1 (v := fun _ => allV) (G.bi1 L q (by decide +kernel) PyProof.Rows.boot_all (cr_all G.calm)) (soundE L a G h) vr_all)
  | .indexOf a b, sc, fn, X, m, e, W, G, h => by
    rw [chkE] at h
    cases q : asMeth e with
    | none => rw [q] at h; cases h
    | some u =>
      obtain ⟨o, n, x⟩ := u
      rw [q] at h
      simp only [Bool.and_eq_true, decide_eq_true_eq, Option.isNone_iff_eq_none] at h
      obtain ⟨⟨⟨⟨rfl, h1⟩, h2⟩, h3⟩, h4⟩ := h
      obtain ⟨ap, cp, rfl, hl⟩ := asMeth_eq q
      exact sndOf (se_index (fun ta tb ha hb => pe_bm PySem.F.plainAttrs_list PySem.F.slot_list_index PySem.F.type_list_index (mt_indexD (by have := G.room.un; omega)) ha (pa_cons hb pa_nil (starEach_plain h2)) (plainO_of h1) (by rw [starEach_plain h2]; rfl) hl (starEach_plain h2)) (soundE (m := .v true) L a G h3) (soundE (m := .v true) L b G h4))
  | .ix a i, sc, fn, X, m, e, W, G, h => by
    rw [chkE] at h
    cases q : asSub e with
    | none => rw [q] at h; cases h
    | some u =>
      obtain ⟨x, y⟩ := u
      rw [q] at h
      obtain ⟨pp, rfl⟩ := asSub_eq q
      simp only [Bool.and_eq_true, Option.isNone_iff_eq_none] at h
      exact sndOf (se2 (v := fun st => ixV st) (fun ta tb ha hb => pe_ix ix_seq ha hb (plainIx_of h.1.1)) (soundE L a G h.1.2) (soundE L i G h.2) vr_ix)
  | .sl a lo hi, sc, fn, X, m, e, W, G, h => by
    rw [chkE] at h
    cases q : asSub e with
    | none => rw [q] at h; cases h
    | some u =>
      obtain ⟨x, y⟩ := u
      rw [q] at h
      obtain ⟨pp, rfl⟩ := asSub_eq q
      dsimp only at h
      split at h
      · rename_i l hh q2
        obtain ⟨p2, rfl⟩ := asSlice_eq q2
        simp only [Bool.and_eq_true] at h
        exact sndOf (se_sl (fun ta tl th ha hl hh => pe_slice (sl_list.or (sl_tupA.or sl_str)) ha hl hh) (soundE L a G h.1.1) (soundO L lo G h.1.2) (soundO L hi G h.2))
      · cases h
  | .comp elt tg it ifs own, sc, fn, X, m, e, W, G, h => sndOf (sF_v (F_comp G h (fun tp x hx => soundE (m := .i true tp) L it G hx) (fun G' hx => soundF L ifs G' hx) (fun G' hx => soundE (m := .v false) L elt G' hx)))
  | .rng1 a, sc, fn, X, m, e, W, G, h => by
    rw [chkE, Bool.and_eq_true] at h
    cases m with
    | v b => cases h.1
    | i b tp =>
      have h2 := h.2
      cases q : call1 sc "range" e with
      | none => rw [q] at h2; cases h2
      | some x =>
        rw [q] at h2
        intro tgt _
        obtain ⟨qn, pp, rfl, g, hs⟩ := call1_of q
        obtain ⟨g1, g2, g3⟩ := G.gl g
        exact si_rng1 (fun ta ha => pi_range1 g1 (by rw [G.hmg]; exact L.bi _ (by decide +kernel)) (pa_cons ha pa_nil (starEach_plain hs)) (starEach_plain hs)) (soundE L a G h2)
  | .rng2 a b, sc, fn, X, m, e, W, G, h => by
    rw [chkE, Bool.and_eq_true] at h
    cases m with
    | v b => cases h.1
    | i bb tp =>
      have h2 := h.2
      cases q : call2 sc "range" e with
      | none => rw [q] at h2; cases h2
      | some u =>
        obtain ⟨x, y⟩ := u
        rw [q] at h2
        simp only [Bool.and_eq_true] at h2
        intro tgt _
        obtain ⟨qn, pp, rfl, g, hs, hs2⟩ := call2_of q
        obtain ⟨g1, g2, g3⟩ := G.gl g
        exact si_rng2 (fun ta tb ha hb => pi_range2 g1 (by rw [G.hmg]; exact L.bi _ (by decide +kernel)) (pa_cons ha (pa_cons hb pa_nil (starEach_plain hs2)) (starEach_plain hs)) (by rw [starEach_plain hs, starEach_plain hs2]; rfl) (starEach_plain hs2)) (soundE L a G h2.1) (soundE L b G h2.2)
  | .zip2 a b, sc, fn, X, m, e, W, G, h => by
    rw [chkE, Bool.and_eq_true, Bool.and_eq_true] at h
    cases m with
    | v b => cases h.1.1
    | i bb tp =>
      have h2 := h.2
      have htp : tp = true := h.1.2
      cases q : call2 sc "zip" e with
      | none => rw [q] at h2; cases h2
      | some u =>
        obtain ⟨x, y⟩ := u
        rw [q] at h2
        simp only [Bool.and_eq_true] at h2
        intro tgt ht
        obtain ⟨es, kk, p2, rfl⟩ := ht htp
        obtain ⟨qn, pp, rfl, g, hs, hs2⟩ := call2_of q
        obtain ⟨g1, g2, g3⟩ := G.gl g
        exact si_zip (fun ta tb ha hb => RZ.pi_zipA g1 (by rw [G.hmg]; exact L.bi _ (by decide +kernel)) (pa_cons ha (pa_cons hb pa_nil (starEach_plain hs2)) (starEach_plain hs)) (starEach_plain hs) (noStars_any (by unfold noStars; simp [hs2]))) (soundE L a G h2.1) (soundE L b G h2.2)
  | .repr a, sc, fn, X, m, e, W, G, h => by
    rw [chkE] at h
    cases q : call1 sc "repr" e with
    | none => rw [q] at h; cases h
    | some x =>
      rw [q] at h
      rw [Bool.and_eq_true] at h
      exact sndOf (se1 (v := fun _ => reprV) (G.bi1 L q (by decide +kernel) PyProof.Rows.boot_repr (cr_repr (G.gd (L.rp h.1)) G.room.units)) (soundE (m := .v true) L a G h.2) vr_repr)
  | .attr cn a x, sc, fn, X, m, e, W, G, h => sndOf (F_attr L G h fun y hy => soundE (m := .v false) L a G hy)
  | .meth cn mm f a es, sc, fn, X, m, e, W, G, h => by
    rw [chkE] at h
    exact sndOf (F_meth L G h (fun y hy => soundE (m := .v false) L a G hy) (fun ys hy => soundA L es G hy))
  | .make f es, sc, fn, X, m, e, W, G, h => sndOf (F_make L G h fun ys hy => soundA L es G hy)
  | .callK f ks pm es, sc, fn, X, m, e, W, G, h => sndOf (F_callK L G h fun kws hy hz => soundK L es G hy hz)
  | .zips a b, sc, fn, X, m, e, W, G, h => by
    rw [chkE, Bool.and_eq_true, Bool.and_eq_true] at h
    cases m with
    | v b => cases h.1.1
    | i bb tp =>
      have h2 := h.2
      have htp : tp = true := h.1.2
      cases q : asZs e with
      | none => rw [q] at h2; cases h2
      | some u =>
        obtain ⟨x, y⟩ := u
        rw [q] at h2
        simp only [Bool.and_eq_true, Option.isNone_iff_eq_none] at h2
        obtain ⟨⟨⟨⟨g, hs⟩, hs2⟩, k1⟩, k2⟩ := h2
        intro tgt ht
        obtain ⟨es, kk, p2, rfl⟩ := ht htp
        obtain ⟨qn, kp, ck, cp, pp, rfl⟩ := asZs_eq q
        obtain ⟨g1, g2, g3⟩ := G.gl g
        exact si_zips (fun ta tb ha hb => Zs.pi_zs g1 (by rw [G.hmg]; exact L.bi _ (by decide +kernel)) (pa_cons ha (pa_cons hb pa_nil (starEach_plain hs2)) (starEach_plain hs)) (starEach_plain hs) (noStars_any (by unfold noStars; simp [hs2]))) (soundE L a G k1) (soundE L b G k2)
  | .dkeys a, sc, fn, X, m, e, W, G, h => sndOf (sF_v (F_dkeys L G h fun x hx => soundE (m := .v true) L a G hx))
  | .dgetT a i, sc, fn, X, m, e, W, G, h => by
    rw [chkE] at h
    cases q : asSub e with
    | none => rw [q] at h; cases h
    | some u =>
      obtain ⟨x, y⟩ := u
      rw [q] at h
      obtain ⟨pp, rfl⟩ := asSub_eq q
      simp only [Bool.and_eq_true, Option.isNone_iff_eq_none] at h
      exact sndOf (se_dgetT (fun ta tb ha hb => pe_dgetS (by have := G.room.un; omega) ha hb (plainIx_of h.1.1)) (soundE (m := .v true) L a G h.1.2) (soundE (m := .v true) L i G h.2))
  | .glist f es, sc, fn, X, m, e, W, G, h => sndOf (sF_v (F_glist L G h fun xs hx => soundA L es G hx))
  | .dcomp2 k1 k2 v tg it tg2 it2 own own2, sc, fn, X, m, e, W, G, h => sndOf (F_dcomp2 G h (fun tp x hx => soundE (m := .i true tp) L it G hx) (fun G' hx => soundE (m := .i false _) L it2 G' hx) (fun G' hx => soundE (m := .v false) L k1 G' hx) (fun G' hx => soundE (m := .v false) L k2 G' hx) (fun G' hx => soundE (m := .v false) L v G' hx))
  | .dct kvs, sc, fn, X, m, e, W, G, h => by
    rw [chkE] at h
    cases q : asDct e with
    | none => rw [q] at h; cases h
    | some u =>
      obtain ⟨ks, vs, pp⟩ := u
      rw [q] at h
      obtain rfl := asDct_eq q
      simp only [Bool.and_eq_true, decide_eq_true_eq] at h
      exact sndOf (se_dct (soundD L kvs G h.2) h.1.1.1.1 h.1.1.1.2 h.1.1.2 h.1.2)
  | .dget a i, sc, fn, X, m, e, W, G, h => by
    rw [chkE] at h
    cases q : asSub e with
    | none => rw [q] at h; cases h
    | some u =>
      obtain ⟨x, y⟩ := u
      rw [q] at h
      obtain ⟨pp, rfl⟩ := asSub_eq q
      simp only [Bool.and_eq_true, Option.isNone_iff_eq_none] at h
      exact sndOf (se_dget (fun ta tb ha hb => pe_dget (by have := G.room.un; omega) ha hb (plainIx_of h.1.1)) (soundE (m := .v true) L a G h.1.2) (soundE (m := .v true) L i G h.2))
  | .any a, sc, fn, X, m, e, W, G, h => by
    rw [chkE] at h
    cases q : call1 sc "any" e with
    | none => rw [q] at h; cases h
    | some x =>
      rw [q] at h
      exact sndOf (se1 (v := fun _ => anyV) (G.bi1 L q (by decide +kernel) PyProof.Rows.boot_any (cr_any G.calm)) (soundE L a G h) vr_any)
  | .str1 a, sc, fn, X, m, e, W, G, h => by
    rw [chkE] at h
    cases q : call1 sc "str" e with
    | none => rw [q] at h; cases h
    | some x =>
      rw [q] at h
      exact sndOf (se1 (v := fun _ => str1V) (G.ty1 L q (by decide +kernel) PyProof.Rows.boot_str cr_str1) (soundE L a G h) vr_str1)
  | .chain o1 o2 a b c, sc, fn, X, m, e, W, G, h => by
    rw [chkE] at h
    cases q : asCmp2 e with
    | none => rw [q] at h; cases h
    | some t =>
      obtain ⟨l, p1, mm, p2, r⟩ := t
      rw [q] at h
      obtain ⟨pp, rfl⟩ := asCmp2_eq q
      simp only [Bool.and_eq_true, decide_eq_true_eq, Bool.not_eq_true'] at h
      obtain ⟨⟨⟨⟨⟨rfl, rfl⟩, h0⟩, h1⟩, h2⟩, h3⟩ := h
      refine sndOf (wPE (pe_chain (opr_cmp (by have := G.room.un; omega) o1) (opr_cmp (by have := G.room.un; omega) o2) (soundE (m := .v true) (W := W) L a G h1) (soundE (m := .v true) (W := W) L b G h2) (soundE (m := .v true) (W := W) L c G h3) (lastM h0)) ?_)
      intro σ H Q hh
      exact w_chain (fa := ev Φ a) (fb := ev Φ b) (fc := ev Φ c) (o1 := o1) (o2 := o2) σ H Q hh
  | .gc g, sc, fn, X, m, e, W, G, h => by
    rw [chkE] at h
    cases q : asName e with
    | none => rw [q] at h; cases h
    | some x =>
      rw [q] at h
      simp only [Bool.and_eq_true, decide_eq_true_eq] at h
      obtain ⟨⟨rfl, h1⟩, h2⟩ := h
      obtain ⟨u, v, t, m1, m2, m3, m4⟩ := L.gc g h1
      refine sndOf (wPE (G.glob q h2 m1 m2) fun σ H Q ⟨gg, ω, ρ, st, rel, hq⟩ => ?_)
      change postG _ _ _ _ _ _ _ _ ((Φ (1000 + g) [] st).noexc) Q at hq
      rw [m4] at hq
      exact hq v H ω (ExtE.refl _ _) rel.cells (.inl (by rw [G.hK]; exact m3 _ _))
  | .kget g kk, sc, fn, X, m, e, W, G, h => by
    rw [chkE] at h
    cases q : asSub e with
    | none => rw [q] at h; cases h
    | some u =>
      obtain ⟨x, y⟩ := u
      rw [q] at h
      obtain ⟨pp, rfl⟩ := asSub_eq q
      simp only [Bool.and_eq_true, Option.isNone_iff_eq_none, decide_eq_true_eq] at h
      obtain ⟨⟨⟨⟨h0, h1⟩, h2⟩, h3⟩, h4⟩ := h
      obtain ⟨a, es, n, T, m1, m2, m3, m4, m5⟩ := L.tb g h2
      have D : KDict X.K X.w a es n := by rw [G.hK, G.hw]; exact m2
      exact sndOf (wPE (pe_ix ix_kdict (G.glob h1 h3 m1 (v := .ref a) rfl) (soundE (m := .v true) L kk G h4) (plainIx_of h0)) (kget_w D (by rw [G.hK]; exact m3) m4))
  | .kin neg g kk, sc, fn, X, m, e, W, G, h => by
    rw [chkE] at h
    cases q : asCmp e with
    | none => rw [q] at h; cases h
    | some t =>
      obtain ⟨l, o, r⟩ := t
      rw [q] at h
      obtain ⟨pp, rfl⟩ := asCmp_eq q
      simp only [Bool.and_eq_true, decide_eq_true_eq] at h
      obtain ⟨⟨⟨⟨rfl, h1⟩, h2⟩, h3⟩, h4⟩ := h
      obtain ⟨rr, o1, o2, o3⟩ := G.kin L (neg := neg) h1 h2 h3 (soundE (m := .v true) L kk G h4)
      have hs : isSet r = false := by obtain ⟨_, rfl⟩ := asName_eq h1; rfl
      exact sndOf (wPE (pe_cmpR o1 (soundE (m := .v true) L kk G h4) o2 (marks_of hs)) (o3 _))
  | .comp2 elt tg it tg2 it2 ifs own own2, sc, fn, X, m, e, W, G, h => sndOf (sF_v (F_comp2 G h (fun tp x hx => soundE (m := .i true tp) L it G hx) (fun G' hx => soundE (m := .i false _) L it2 G' hx) (fun G' hx => soundF L ifs G' hx) (fun G' hx => soundE (m := .v false) L elt G' hx)))
  | .enum a, sc, fn, X, m, e, W, G, h => by
    rw [chkE, Bool.and_eq_true, Bool.and_eq_true] at h
    cases m with
    | v b => cases h.1.1
    | i bb tp =>
      have h2 := h.2
      have htp : tp = true := h.1.2
      cases q : call1 sc "enumerate" e with
      | none => rw [q] at h2; cases h2
      | some x =>
        rw [q] at h2
        intro tgt ht
        obtain ⟨es, kk, p2, rfl⟩ := ht htp
        obtain ⟨qn, pp, rfl, g, hs⟩ := call1_of q
        obtain ⟨g1, g2, g3⟩ := G.gl g
        have hst : starEach [x] X.env = [(false, eval x X.env)] := by rw [starEach_plain hs]; rfl
        have hm : X.mg "enumerate" = none := by rw [G.hmg]; exact L.bi _ (by decide +kernel)
        exact si_enum (fun ta ha => pi_or (pi_enum g1 hm (pa_cons ha pa_nil (starEach_plain hs)) hst) (pi_enumT g1 hm (pa_cons ha pa_nil (starEach_plain hs)) hst)) (soundE (m := .v false) L a G h2)
  | .join a b, sc, fn, X, m, e, W, G, h => by
    rw [chkE] at h
    cases q : asMeth e with
    | none => rw [q] at h; cases h
    | some u =>
      obtain ⟨o, n, x⟩ := u
      rw [q] at h
      simp only [Bool.and_eq_true, decide_eq_true_eq, Option.isNone_iff_eq_none] at h
      obtain ⟨⟨⟨⟨rfl, h1⟩, h2⟩, h3⟩, h4⟩ := h
      obtain ⟨ap, cp, rfl, hl⟩ := asMeth_eq q
      exact sndOf (se_join (fun ta tb ha hb => pe_join ha hb (by rw [starEach_plain h2]; rfl) (plainO_of h1) hl) (soundE (m := .v true) L a G h3) (soundE (m := .v true) L b G h4))
  | .fstr es, sc, fn, X, m, e, W, G, h => by
    rw [chkE] at h
    split at h
    · rename_i v w r q
      obtain ⟨pp, rfl⟩ := asFstr_eq q
      exact sndOf (se_fstr (fun ts pj => pe_joined pj) (soundJ L es G h))
    · rename_i v q
      obtain ⟨pp, rfl⟩ := asFstr_eq q
      split at h
      · rename_i a x hx
        obtain ⟨pq, rfl⟩ := asFmt_eq hx
        refine sndOf (wPE (pe_joined1 (pe_fmt (soundE (m := .v true) (W := W) L a G h))) fun σ H Q ⟨gg, ω, ρ, st, rel, hq⟩ => tv_fmt (W := W) (bz := m.b) (fa := ev Φ a) σ H Q ⟨gg, ω, ρ, st, rel, ?_⟩)
        change postG _ _ _ _ _ _ _ _ (((ev Φ a ρ st).bind fun x st => match fmtV Str.empty x with
          | some acc' => R.ok acc' st
          | none => .bad).bind fun s st => R.ok (PV.str s) st) Q at hq
        rw [fmt_bind] at hq
        exact hq
      · cases h
    · cases h
  | .rev a, sc, fn, X, m, e, W, G, h => sndOf (sF_v (F_rev h fun x hx => soundE (m := .v true) L a G hx))
  | .tupRng a b, sc, fn, X, m, e, W, G, h => by
    rw [chkE] at h
    cases q : call1 sc "tuple" e with
    | none => rw [q] at h; cases h
    | some x =>
      rw [q] at h
      dsimp only at h
      cases q2 : call2 sc "range" x with
      | none => rw [q2] at h; cases h
      | some u =>
        obtain ⟨y, z⟩ := u
        rw [q2] at h
        simp only [Bool.and_eq_true] at h
        obtain ⟨qn, pp, rfl, g, hs⟩ := call1_of q
        obtain ⟨qn2, pp2, rfl, gg, hs1, hs2⟩ := call2_of q2
        obtain ⟨g1, g2, g3⟩ := G.gl g
        obtain ⟨k1, k2, k3⟩ := G.gl gg
        have m1 : X.mg "tuple" = none := by rw [G.hmg]; exact L.bi _ (by decide +kernel)
        have m2 : X.mg "range" = none := by rw [G.hmg]; exact L.bi _ (by decide +kernel)
        exact sndOf (se_tupRng (fun ta tb ha hb => pe_tupRg G.calm g1 m1 (prg_2 k1 m2 ha hb (starEach_plain hs1) (starEach_plain hs2) (noStars_any (es := [z]) (by unfold noStars; simp [hs2]))) (starEach_plain hs)) (soundE (m := .v true) L a G h.1) (soundE (m := .v true) L b G h.2))
  | .sset a, sc, fn, X, m, e, W, G, h => by
    rw [chkE] at h
    cases q : call1 sc "sorted" e with
    | none => rw [q] at h; cases h
    | some x =>
      rw [q] at h
      dsimp only at h
      cases q2 : call1 sc "set" x with
      | none => rw [q2] at h; cases h
      | some y =>
        rw [q2] at h
        exact sndOf (se1 (v := fun _ => ssetV) (r := rSS X.K X.prog X.w) (fun ta ha => G.bi1 L q (by decide +kernel) PyProof.Rows.boot_sorted (cr_sortS G.calm (by have := G.room.un; omega)) _ (G.ty1 L q2 (by decide +kernel) PyProof.Rows.boot_set (cr_setOfT G.calm (by have := G.room.un; omega)) _ ha)) (soundE (m := .v true) L a G h) vr_sset)
  | .sorted a, sc, fn, X, m, e, W, G, h => by
    rw [chkE] at h
    cases q : call1 sc "sorted" e with
    | none => rw [q] at h; cases h
    | some x =>
      rw [q] at h
      exact sndOf (se1 (v := fun _ => sortedV) (G.bi1 L q (by decide +kernel) PyProof.Rows.boot_sorted (cr_sortD (by have := G.room.un; omega))) (soundE (m := .v true) L a G h) vr_sorted)
theorem soundJ (L : Lib p k S Φ) : ∀ (cs : Cs) {sc : Scope} {fn : Str → Bool} {X : Cx} {es : List Expr} {W : Wx}, Good p k S.N sc fn X → chkJ S sc fn cs es = true → SJ X W es (fun acc => evj Φ cs acc)
  | .nil, sc, fn, X, [], W, G, h => sj_nil
  | .cons a r, sc, fn, X, e :: es, W, G, h => by
    rw [chkJ, Bool.and_eq_true] at h
    have ih := soundJ L r (W := W) G h.2
    cases q : asFmt e with
    | some x =>
      rw [q] at h
      obtain ⟨pq, rfl⟩ := asFmt_eq q
      exact sj_fmt (soundE (m := .v true) L a G h.1) (fun te hte => pe_fmt hte) ih
    | none =>
      rw [q] at h
      have h1 := h.1
      dsimp only at h1
      cases q2 : constS a with
      | none => rw [q2] at h1; cases h1
      | some s =>
        rw [q2] at h1
        obtain rfl := constS_eq q2
        obtain ⟨kk, pp, rfl⟩ := asConst_eq (of_decide_eq_true h1)
        exact sj_str pe_str ih
  | .nil, sc, fn, X, _ :: _, W, G, h => Bool.noConfusion (show false = true from h)
  | .cons a r, sc, fn, X, [], W, G, h => Bool.noConfusion (show false = true from h)
  | .star a r, sc, fn, X, es, W, G, h => Bool.noConfusion (show false = true from h)
theorem soundD (L : Lib p k S Φ) : ∀ (cs : Cs) {sc : Scope} {fn : Str → Bool} {X : Cx} {ks : List (Option Expr)} {vs : List Expr} {pos : Pos} {W : Wx}, Good p k S.N sc fn X → chkD S sc fn cs ks vs = true → SPs X W pos ks vs (evs Φ cs)
  | .nil, sc, fn, X, [], [], pos, W, G, h => sp_nil
  | .cons a (.cons b r), sc, fn, X, some x :: xs, y :: ys, pos, W, G, h => by
    rw [chkD, Bool.and_eq_true, Bool.and_eq_true] at h
    exact sp_cons (soundE (m := .v false) L a G h.1.1) (soundE (m := .v false) L b G h.1.2) (soundD L r G h.2)
  | .nil, sc, fn, X, _ :: _, _, pos, W, G, h => Bool.noConfusion (show false = true from h)
  | .nil, sc, fn, X, [], _ :: _, pos, W, G, h => Bool.noConfusion (show false = true from h)
  | .star a r, sc, fn, X, ks, vs, pos, W, G, h => Bool.noConfusion (show false = true from h)
  | .cons a .nil, sc, fn, X, ks, vs, pos, W, G, h => Bool.noConfusion (show false = true from h)
  | .cons a (.star b r), sc, fn, X, ks, vs, pos, W, G, h => Bool.noConfusion (show false = true from h)
  | .cons a (.cons b r), sc, fn, X, [], vs, pos, W, G, h => Bool.noConfusion (show false = true from h)
  | .cons a (.cons b r), sc, fn, X, none :: xs, vs, pos, W, G, h => Bool.noConfusion (show false = true from h)
  | .cons a (.cons b r), sc, fn, X, some x :: xs, [], pos, W, G, h => Bool.noConfusion (show false = true from h)
theorem soundA (L : Lib p k S Φ) : ∀ (cs : Cs) {sc : Scope} {fn : Str → Bool} {X : Cx} {es : List Expr} {W : Wx}, Good p k S.N sc fn X → chkA S sc fn cs es = true → PA X es (tvs X.K W (evs Φ cs))
  | .nil, sc, fn, X, [], W, G, h => sa_nil
  | .cons a r, sc, fn, X, e :: es, W, G, h => by
    rw [chkA, Bool.and_eq_true, Bool.and_eq_true, Option.isNone_iff_eq_none] at h
    exact sa_cons (fun ta tb ha hb => pa_cons ha hb (starEach_plain h.1.1)) (soundE L a G h.1.2) (soundA L r G h.2)
  | .star a r, sc, fn, X, e :: es, W, G, h => by
    rw [chkA, Bool.and_eq_true] at h
    cases q : asStar e with
    | none => rw [q] at h; cases h.1
    | some x =>
      rw [q] at h
      obtain ⟨pp, rfl⟩ := asStar_eq q
      exact sa_star (fun ta tb ha hb => StX.pa_star ha hb rfl) (soundE L a G h.1) (soundA L r G h.2)
  | .nil, sc, fn, X, _ :: _, W, G, h => Bool.noConfusion (show false = true from h)
  | .cons a r, sc, fn, X, [], W, G, h => Bool.noConfusion (show false = true from h)
  | .star a r, sc, fn, X, [], W, G, h => Bool.noConfusion (show false = true from h)
theorem soundK (L : Lib p k S Φ) : ∀ (cs : Cs) {sc : Scope} {fn : Str → Bool} {X : Cx} {kws : List Keyword} {W : Wx}, Good p k S.N sc fn X → chkA S sc fn cs (kws.map (·.value)) = true → noStars (kws.map (·.value)) = true → PK X kws (tvs X.K W (evs Φ cs))
  | .nil, sc, fn, X, [], W, G, h, _ => sk_nil
  | .cons a r, sc, fn, X, ⟨nm, e, kp⟩ :: kws, W, G, h, hn => by
    rw [List.map_cons, chkA, Bool.and_eq_true, Bool.and_eq_true] at h
    have hn' : noStars (kws.map (·.value)) = true := by
      unfold noStars at hn ⊢
      rw [List.map_cons, List.all_cons, Bool.and_eq_true] at hn
      exact hn.2
    exact sk_cons (soundE L a G h.1.2) (soundK L r G h.2 hn')
  | .star a r, sc, fn, X, ⟨nm, e, kp⟩ :: kws, W, G, h, hn => by
    rw [List.map_cons, chkA, Bool.and_eq_true] at h
    unfold noStars at hn
    rw [List.map_cons, List.all_cons, Bool.and_eq_true, Option.isNone_iff_eq_none] at hn
    rw [hn.1] at h
    exact Bool.noConfusion (show false = true from h.1)
  | .nil, sc, fn, X, _ :: _, W, G, h, _ => Bool.noConfusion (show false = true from h)
  | .cons a r, sc, fn, X, [], W, G, h, _ => Bool.noConfusion (show false = true from h)
  | .star a r, sc, fn, X, [], W, G, h, _ => Bool.noConfusion (show false = true from h)
theorem soundO (L : Lib p k S Φ) : ∀ (cs : Cs) {sc : Scope} {fn : Str → Bool} {X : Cx} {o : Option Expr} {W : Wx}, Good p k S.N sc fn X → chkO S sc fn cs o = true → PO X o (tvo X.K W (evo Φ cs))
  | .nil, sc, fn, X, none, W, G, h => so_nil
  | .cons a .nil, sc, fn, X, some e, W, G, h => by
    rw [chkO] at h
    exact so_one (soundE L a G h)
  | .nil, sc, fn, X, some _, W, G, h => Bool.noConfusion (show false = true from h)
  | .cons a .nil, sc, fn, X, none, W, G, h => Bool.noConfusion (show false = true from h)
  | .cons a (.cons b r), sc, fn, X, o, W, G, h => by cases o <;> exact Bool.noConfusion (show false = true from h)
  | .cons a (.star b r), sc, fn, X, o, W, G, h => by cases o <;> exact Bool.noConfusion (show false = true from h)
  | .star a r, sc, fn, X, o, W, G, h => by cases o <;> exact Bool.noConfusion (show false = true from h)
theorem soundF (L : Lib p k S Φ) : ∀ (cs : Cs) {sc : Scope} {fn : Str → Bool} {X : Cx} {fs : List Expr} {W : Wx}, Good p k S.N sc fn X → chkF S sc fn cs fs = true → PTs X fs (tvbb X.K W (evt Φ cs))
  | .nil, sc, fn, X, [], W, G, h => sts_nil
  | .cons a .nil, sc, fn, X, [e], W, G, h => by
    rw [chkF] at h
    exact sts_one (soundT L a G h)
  | .nil, sc, fn, X, _ :: _, W, G, h => Bool.noConfusion (show false = true from h)
  | .cons a .nil, sc, fn, X, [], W, G, h => Bool.noConfusion (show false = true from h)
  | .cons a .nil, sc, fn, X, _ :: _ :: _, W, G, h => Bool.noConfusion (show false = true from h)
  | .cons a (.cons b r), sc, fn, X, fs, W, G, h => Bool.noConfusion (show false = true from h)
  | .cons a (.star b r), sc, fn, X, fs, W, G, h => Bool.noConfusion (show false = true from h)
  | .star a r, sc, fn, X, fs, W, G, h => Bool.noConfusion (show false = true from h)
theorem soundT (L : Lib p k S Φ) : ∀ (c : C) {sc : Scope} {fn : Str → Bool} {X : Cx} {e : Expr} {W : Wx}, Good p k S.N sc fn X → chkT S sc fn c e = true → PT X e (tvbb X.K W (asB (ev Φ c)))
  | .not a, sc, fn, X, e, W, G, h => by
    rw [chkT] at h
    cases q : asUn e with
    | none => rw [q] at h; cases h
    | some t =>
      obtain ⟨o, x⟩ := t
      rw [q] at h
      obtain ⟨pp, rfl⟩ := asUn_eq q
      simp only [Bool.and_eq_true, decide_eq_true_eq] at h
      obtain ⟨rfl, h1⟩ := h
      exact st_not (fun t ht => pt_not ht) (soundT L a G h1)
  | .and a b, sc, fn, X, e, W, G, h => by
    rw [chkT] at h
    split at h
    · rename_i x y pp q
      obtain rfl := asBool_eq q
      rw [Bool.and_eq_true] at h
      exact (sw_and (fun t u ht hu => pw_and ht hu) (soundT L a G h.1) (pw_and1 (soundT L b G h.2))).pt
    · rename_i x y z r pp q
      obtain rfl := asBool_eq q
      rw [Bool.and_eq_true] at h
      exact (sw_and (fun t u ht hu => pw_and ht hu) (soundT L a G h.1) (pw_bool (soundT L b G h.2))).pt
    · cases h
  | .or a b, sc, fn, X, e, W, G, h => by
    rw [chkT] at h
    split at h
    · rename_i x y pp q
      obtain rfl := asBool_eq q
      rw [Bool.and_eq_true] at h
      exact (sw_or (fun t u ht hu => pw_or ht hu) (soundT L a G h.1) (pw_or1 (soundT L b G h.2))).pt
    · rename_i x y z r pp q
      obtain rfl := asBool_eq q
      rw [Bool.and_eq_true] at h
      exact (sw_or (fun t u ht hu => pw_or ht hu) (soundT L a G h.1) (pw_bool (soundT L b G h.2))).pt
    · cases h
  | .cmp op a b, sc, fn, X, e, W, G, h => by
    rw [chkT] at h
    cases q : asCmp e with
    | none => rw [q] at h; cases h
    | some t =>
      obtain ⟨l, o, r⟩ := t
      rw [q] at h
      obtain ⟨pp, rfl⟩ := asCmp_eq q
      simp only [Bool.and_eq_true, decide_eq_true_eq, Bool.not_eq_true'] at h
      obtain ⟨⟨⟨rfl, h0⟩, h1⟩, h2⟩ := h
      exact st_cmp (pt_cmpR (opr_cmp (by have := G.room.un; omega) op) (soundE (m := .v true) L a G h1) (soundE (m := .v true) L b G h2) (marks_of h0)) (w2 (v := fun _ x y => (cmpV op x y).map .bl) (vr_cmp op))
  | .call f es, sc, fn, X, e, W, G, h => by
    rw [chkT] at h
    cases q : asCall e with
    | none => rw [q] at h; cases h
    | some u =>
      obtain ⟨x, xs⟩ := u
      rw [q] at h
      simp only [Bool.and_eq_true, decide_eq_true_eq, Bool.not_eq_true'] at h
      obtain ⟨⟨⟨⟨⟨h0, h1⟩, h2⟩, h3⟩, h4⟩, h5⟩ := h
      refine asB_ev ?_ ((G.call L q h1 h2 h3 h5 (fun z => by subst z; cases es <;> first | rfl | exact Bool.noConfusion (show false = true from h4)) (soundA L es G h4)).1 h0 _)
      obtain ⟨_, _, rfl⟩ := asCall_eq q
      rfl
  | .isa2 a t u, sc, fn, X, e, W, G, h => by
    rw [chkT] at h
    cases q : call2 sc "isinstance" e with
    | none => rw [q] at h; cases h
    | some r =>
      obtain ⟨x, y⟩ := r
      rw [q] at h
      dsimp only at h
      split at h
      · rename_i y1 y2 hy
        simp only [Bool.and_eq_true, decide_eq_true_eq] at h
        refine asB_ev ?_ (G.isi2 L q hy h.1.1.1.1 h.1.1.1.2 h.1.1.2 h.1.2 (soundE (m := .v true) L a G h.2))
        obtain ⟨_, _, rfl, _⟩ := call2_of q
        rfl
      · cases h
  | .isa a t, sc, fn, X, e, W, G, h => by
    rw [chkT] at h
    cases q : call2 sc "isinstance" e with
    | none => rw [q] at h; cases h
    | some u =>
      obtain ⟨x, y⟩ := u
      rw [q] at h
      simp only [Bool.and_eq_true, decide_eq_true_eq] at h
      refine asB_ev ?_ (G.isi L q h.1.1 h.1.2 (soundE (m := .v true) L a G h.2))
      obtain ⟨_, _, rfl, _⟩ := call2_of q
      rfl
  | .all a, sc, fn, X, e, W, G, h => by
    rw [chkT] at h
    cases q : call1 sc "all" e with
    | none => rw [q] at h; cases h
    | some x =>
      rw [q] at h
      refine asB_ev ?_ (se1 (v := fun _ => allV) (G.bi1 L q (by decide +kernel) PyProof.Rows.boot_all (cr_all G.calm)) (soundE (m := .v true) L a G h) vr_all)
      obtain ⟨_, _, rfl, _⟩ := call1_of q
      rfl
  | .meth cn mm f a es, sc, fn, X, e, W, G, h => by
    rw [chkT] at h
    refine asB_ev ?_ (F_meth L G h (fun y hy => soundE (m := .v false) L a G hy) (fun ys hy => soundA L es G hy))
    cases q : asMth e with
    | none => rw [q] at h; cases h
    | some u =>
      obtain ⟨o, n, xs⟩ := u
      obtain ⟨_, _, rfl, _⟩ := asMth_eq q
      rfl
  | .var i, sc, fn, X, e, W, G, h => by
    rw [chkT] at h
    refine asB_ev ?_ (se_var (G.var h))
    obtain ⟨_, _, rfl, _⟩ := isNm_of h
    rfl
  | .ix a i, sc, fn, X, e, W, G, h => by
    rw [chkT] at h
    cases q : asSub e with
    | none => rw [q] at h; cases h
    | some u =>
      obtain ⟨x, y⟩ := u
      rw [q] at h
      obtain ⟨pp, rfl⟩ := asSub_eq q
      simp only [Bool.and_eq_true, Option.isNone_iff_eq_none] at h
      exact asB_ev rfl (se2 (v := fun st => ixV st) (fun ta tb ha hb => pe_ix ix_seq ha hb (plainIx_of h.1.1)) (soundE (m := .v true) L a G h.1.2) (soundE (m := .v true) L i G h.2) vr_ix)
  | .bl b, sc, fn, X, e, W, G, h => by
    rw [chkT, decide_eq_true_eq] at h
    obtain ⟨kk, pp, rfl⟩ := asConst_eq h
    exact asB_ev rfl (se_c (fun _ _ => .bl b) pe_bl)
  | .any a, sc, fn, X, e, W, G, h => by
    rw [chkT] at h
    cases q : call1 sc "any" e with
    | none => rw [q] at h; cases h
    | some x =>
      rw [q] at h
      refine asB_ev ?_ (se1 (v := fun _ => anyV) (G.bi1 L q (by decide +kernel) PyProof.Rows.boot_any (cr_any G.calm)) (soundE (m := .v true) L a G h) vr_any)
      obtain ⟨_, _, rfl, _⟩ := call1_of q
      rfl
  | .chain o1 o2 a b c, sc, fn, X, e, W, G, h => by
    rw [chkT] at h
    cases q : asCmp2 e with
    | none => rw [q] at h; cases h
    | some t =>
      obtain ⟨l, p1, mm, p2, r⟩ := t
      rw [q] at h
      obtain ⟨pp, rfl⟩ := asCmp2_eq q
      simp only [Bool.and_eq_true, decide_eq_true_eq, Bool.not_eq_true'] at h
      obtain ⟨⟨⟨⟨⟨rfl, rfl⟩, h0⟩, h1⟩, h2⟩, h3⟩ := h
      exact st_cmp (pt_chain (opr_cmp (by have := G.room.un; omega) o1) (opr_cmp (by have := G.room.un; omega) o2) (soundE (m := .v true) (W := W) L a G h1) (soundE (m := .v true) (W := W) L b G h2) (soundE (m := .v true) (W := W) L c G h3) (lastM h0)) (fun σ H Q hh => w_chain (fa := ev Φ a) (fb := ev Φ b) (fc := ev Φ c) (o1 := o1) (o2 := o2) σ H Q hh)
  | .kin neg g kk, sc, fn, X, e, W, G, h => by
    rw [chkT] at h
    cases q : asCmp e with
    | none => rw [q] at h; cases h
    | some t =>
      obtain ⟨l, o, r⟩ := t
      rw [q] at h
      obtain ⟨pp, rfl⟩ := asCmp_eq q
      simp only [Bool.and_eq_true, decide_eq_true_eq] at h
      obtain ⟨⟨⟨⟨rfl, h1⟩, h2⟩, h3⟩, h4⟩ := h
      obtain ⟨rr, o1, o2, o3⟩ := G.kin L (neg := neg) h1 h2 h3 (soundE (m := .v true) L kk G h4)
      have hs : isSet r = false := by obtain ⟨_, rfl⟩ := asName_eq h1; rfl
      exact st_cmp (pt_cmpR o1 (soundE (m := .v true) L kk G h4) o2 (marks_of hs)) (o3 _)
  | .cat .., _, _, _, _, _, _, h => Bool.noConfusion (show false = true from h)
  | .dgetD .., _, _, _, _, _, _, h => Bool.noConfusion (show false = true from h)
  | .revT _, _, _, _, _, _, _, h => Bool.noConfusion (show false = true from h)
  | .str1 _, _, _, _, _, _, _, h => Bool.noConfusion (show false = true from h)
  | .gc _, _, _, _, _, _, _, h => Bool.noConfusion (show false = true from h)
  | .kget .., _, _, _, _, _, _, h => Bool.noConfusion (show false = true from h)
  | .comp2 .., _, _, _, _, _, _, h => Bool.noConfusion (show false = true from h)
  | .enum _, _, _, _, _, _, _, h => Bool.noConfusion (show false = true from h)
  | .join .., _, _, _, _, _, _, h => Bool.noConfusion (show false = true from h)
  | .fstr _, _, _, _, _, _, _, h => Bool.noConfusion (show false = true from h)
  | .rev _, _, _, _, _, _, _, h => Bool.noConfusion (show false = true from h)
  | .tupRng .., _, _, _, _, _, _, h => Bool.noConfusion (show false = true from h)
  | .sset _, _, _, _, _, _, _, h => Bool.noConfusion (show false = true from h)
  | .sorted _, _, _, _, _, _, _, h => Bool.noConfusion (show false = true from h)
  | .bor _, _, _, _, _, _, _, h => Bool.noConfusion (show false = true from h)
  | .int _, _, _, _, _, _, _, h => Bool.noConfusion (show false = true from h)
  | .str _, _, _, _, _, _, _, h => Bool.noConfusion (show false = true from h)
  | .non, _, _, _, _, _, _, h => Bool.noConfusion (show false = true from h)
  | .bin .., _, _, _, _, _, _, h => Bool.noConfusion (show false = true from h)
  | .neg _, _, _, _, _, _, _, h => Bool.noConfusion (show false = true from h)
  | .ite .., _, _, _, _, _, _, h => Bool.noConfusion (show false = true from h)
  | .tup _, _, _, _, _, _, _, h => Bool.noConfusion (show false = true from h)
  | .lst _, _, _, _, _, _, _, h => Bool.noConfusion (show false = true from h)
  | .len _, _, _, _, _, _, _, h => Bool.noConfusion (show false = true from h)
  | .toInt _, _, _, _, _, _, _, h => Bool.noConfusion (show false = true from h)
  | .tupleOf _, _, _, _, _, _, _, h => Bool.noConfusion (show false = true from h)
  | .listOf _, _, _, _, _, _, _, h => Bool.noConfusion (show false = true from h)
  | .indexOf .., _, _, _, _, _, _, h => Bool.noConfusion (show false = true from h)
  | .sl .., _, _, _, _, _, _, h => Bool.noConfusion (show false = true from h)
  | .comp .., _, _, _, _, _, _, h => Bool.noConfusion (show false = true from h)
  | .rng1 _, _, _, _, _, _, _, h => Bool.noConfusion (show false = true from h)
  | .rng2 .., _, _, _, _, _, _, h => Bool.noConfusion (show false = true from h)
  | .zip2 .., _, _, _, _, _, _, h => Bool.noConfusion (show false = true from h)
  | .repr _, _, _, _, _, _, _, h => Bool.noConfusion (show false = true from h)
  | .attr .., _, _, _, _, _, _, h => Bool.noConfusion (show false = true from h)
  | .make .., _, _, _, _, _, _, h => Bool.noConfusion (show false = true from h)
  | .callK .., _, _, _, _, _, _, h => Bool.noConfusion (show false = true from h)
  | .zips .., _, _, _, _, _, _, h => Bool.noConfusion (show false = true from h)
  | .dkeys _, _, _, _, _, _, _, h => Bool.noConfusion (show false = true from h)
  | .dgetT .., _, _, _, _, _, _, h => Bool.noConfusion (show false = true from h)
  | .glist .., _, _, _, _, _, _, h => Bool.noConfusion (show false = true from h)
  | .dcomp2 .., _, _, _, _, _, _, h => Bool.noConfusion (show false = true from h)
  | .dct _, _, _, _, _, _, _, h => Bool.noConfusion (show false = true from h)
  | .dget .., _, _, _, _, _, _, h => Bool.noConfusion (show false = true from h)
end
/-- what makes a new list -/
theorem soundN (L : Lib p k S Φ) {c : C} {sc : Scope} {fn : Str → Bool} {X : Cx} {m : Md} {e : Expr} {W : Wx} (G : Good p k S.N sc fn X) (h : chkE S sc fn m c e = true) (hc : (match c with
    | .lst _ => true
    | .listOf _ => true
    | .comp .. => true
    | .comp2 .. => true
    | .rev _ => true
    | .cat .. => true
    | _ => false) = true) : PE X e (tvF X.K W (ev Φ c)) := by
  cases c with
  | lst es => exact F_lst h fun xs hx => soundA L es G hx
  | listOf a => exact F_listOf L G h fun x hx => soundE (m := .v true) L a G hx
  | comp elt tg it ifs own => exact F_comp G h (fun tp x hx => soundE (m := .i true tp) L it G hx) (fun G' hx => soundF L ifs G' hx) (fun G' hx => soundE (m := .v false) L elt G' hx)
  | comp2 elt tg it tg2 it2 ifs own own2 => exact F_comp2 G h (fun tp x hx => soundE (m := .i true tp) L it G hx) (fun G' hx => soundE (m := .i false _) L it2 G' hx) (fun G' hx => soundF L ifs G' hx) (fun G' hx => soundE (m := .v false) L elt G' hx)
  | cat a b => exact F_cat h (fun x hx => soundE (m := .v true) L a G hx) (fun x hx => soundE (m := .v true) L b G hx)
  | rev a => exact F_rev h fun x hx => soundE (m := .v true) L a G hx
  | _ => cases hc
end
end Ev
namespace Ev
open PySem L2
/-! ### statements -/
def RetP (K : PySem.W.Frag) (fr : Bool) (g : Gh) (ω : Wd) (H : Hp) (x : V) (t : PV) : Prop := if fr then FreshP K g.H0 ω H x t else Rep K ω H x t
def postS (K : PySem.W.Frag) (fr : Bool) (g : Gh) (ω : Wd) (H : Hp) (W : Wx) (r : RS) (D : Ends) : Prop := match r with
  | .nx ρ' st' => ∀ σ' H' ω', Ext ω H ω' H' → Rel K g ω' ρ' st' σ' H' → D.nx σ' H'
  | .bk ρ' st' => ∀ σ' H' ω', Ext ω H ω' H' → Rel K g ω' ρ' st' σ' H' → D.bk σ' H'
  | .ct ρ' st' => ∀ σ' H' ω', Ext ω H ω' H' → Rel K g ω' ρ' st' σ' H' → D.ct σ' H'
  | .rt v st' => ∀ x ρ' σ' H' ω', Rel K g ω' ρ' st' σ' H' → RetP K fr g ω' H' x v → D.rt x H'
  | .exc e ρ' st' => ∀ σ' H' ω', Ext ω H ω' H' → Rel K g ω' ρ' st' σ' H' → W e g ω' ρ' st' σ' H'
  | .bad => False
def ts (K : PySem.W.Frag) (fr : Bool) (W : Wx) (f : En → Cel → RS) : TS := fun D σ H => ∃ g ω ρ st, Rel K g ω ρ st σ H ∧ postS K fr g ω H W (f ρ st) D
theorem wPS {X : Cx} {s : Stmt} {t t' : TS} (h : PS X s t) (i : ∀ D σ H, t' D σ H → t D σ H) : PS X s t' := ⟨fun pins s σ H D I q => h.run pins s σ H D I (i _ _ _ q)⟩
theorem wPSs {X : Cx} {s : List Stmt} {t t' : TS} (h : PSs X s t) (i : ∀ D σ H, t' D σ H → t D σ H) : PSs X s t' := ⟨fun pins s σ H D I q => h.run pins s σ H D I (i _ _ _ q)⟩
section
variable {K : PySem.W.Frag} {g : Gh} {ω ω' : Wd} {ρ : En} {st st' : Cel} {σ : St} {H H' : Hp} {X : Cx} {fr : Bool}
/-- exceptions within an expression of a statement -/
theorem postS.ext {W : Wx} {r : RS} {D : Ends} (h : postS K fr g ω H W r D) (x : Ext ω H ω' H') : postS K fr g ω' H' W r D := by
  cases r with
  | nx ρ1 st1 => exact fun σ2 H2 ω2 y rel => h σ2 H2 ω2 (x.trans y) rel
  | bk ρ1 st1 => exact fun σ2 H2 ω2 y rel => h σ2 H2 ω2 (x.trans y) rel
  | ct ρ1 st1 => exact fun σ2 H2 ω2 y rel => h σ2 H2 ω2 (x.trans y) rel
  | rt v st1 => exact h
  | exc e ρ1 st1 => exact fun σ2 H2 ω2 y rel => h σ2 H2 ω2 (x.trans y) rel
  | bad => exact h
theorem thenG {α β : Type} {P : RX α β} {W : Wx} {f : En → Cel → R α} {k : α → Cel → RS} {D : Ends} (r : Rel K g ω ρ st σ H) (h : postS K fr g ω H W ((f ρ st).then ρ k) D) :
    tG P K W f σ H (fun x H1 => ∃ ω1 st1 t, ExtE ω H ω1 H1 ∧ Rel K g ω1 ρ st1 σ H1 ∧ P ω1 H1 x t ∧ postS K fr g ω1 H1 W (k t st1) D) := by
  refine ⟨g, ω, ρ, st, r, ?_⟩
  cases e : f ρ st with
  | ok t s =>
    rw [e] at h
    exact fun x H1 ω1 x1 c p => ⟨ω1, s, t, x1, r.extE x1 c, p, postS.ext h (x1.ext r.cells)⟩
  | exc x s =>
    rw [e] at h
    exact fun H1 ω1 x1 c => h σ H1 ω1 (x1.ext r.cells) (r.extE x1 c)
  | bad => rw [e] at h; exact h
theorem thenF {W : Wx} {f : En → Cel → R PV} {k : PV → Cel → RS} {D : Ends} (r : Rel K g ω ρ st σ H) (h : postS K fr g ω H W ((f ρ st).then ρ k) D) :
    tvF K W f σ H (fun x H1 => ∃ ω1 st1 t, ExtE ω H ω1 H1 ∧ Rel K g ω1 ρ st1 σ H1 ∧ FreshP K H ω1 H1 x t ∧ postS K fr g ω1 H1 W (k t st1) D) := by
  refine ⟨g, ω, ρ, st, r, ?_⟩
  cases e : f ρ st with
  | ok t s =>
    rw [e] at h
    exact fun x H1 ω1 x1 c p => ⟨ω1, s, t, x1, r.extE x1 c, p, postS.ext h (x1.ext r.cells)⟩
  | exc x s =>
    rw [e] at h
    exact fun H1 ω1 x1 c => h σ H1 ω1 (x1.ext r.cells) (r.extE x1 c)
  | bad => rw [e] at h; exact h
theorem tvF.mono {W : Wx} {f : En → Cel → R PV} {Q Q' : VK} (h : tvF K W f σ H Q) (i : ∀ x H, Q x H → Q' x H) : tvF K W f σ H Q' := by
  obtain ⟨g, ω, ρ, st, r, h⟩ := h
  refine ⟨g, ω, ρ, st, r, ?_⟩
  cases e : f ρ st with
  | ok t s => rw [e] at h; exact fun x H' ω' y c p => i _ _ (h x H' ω' y c p)
  | exc x s => rw [e] at h; exact h
  | bad => rw [e] at h; exact h
theorem postNx {W : Wx} {D : Ends} {ρ' : En} (h : postS K fr g ω H W (.nx ρ' st') D) {σ' : St} (r : Rel K g ω ρ' st' σ' H) : D.nx σ' H := h σ' H ω (Ext.refl _ _) r
variable {W : Wx} {e a b : Expr} {s : Stmt}
theorem ss_ret {f : En → Cel → R PV} (hps : ∀ t, PE X e t → PS X s (tRet t)) (h : PE X e (tv X.K false W f)) : PS X s (ts X.K false W fun ρ st => (f ρ st).then ρ fun x st => .rt x st) :=
  wPS (hps _ h) fun D σ H ⟨g, ω, ρ, st, rel, q⟩ => (thenG (P := RepM X.K false) rel q).mono fun x H1 ⟨ω1, st1, t, x1, rel1, p, q⟩ => q x ρ σ H1 ω1 rel1 p.rep
theorem ss_retF {f : En → Cel → R PV} (hps : ∀ t, PE X e t → PS X s (tRet t)) (h : PE X e (tvF X.K W f)) : PS X s (ts X.K true W fun ρ st => (f ρ st).then ρ fun x st => .rt x st) :=
  wPS (hps _ h) fun D σ H ⟨g, ω, ρ, st, rel, q⟩ => (thenF rel q).mono fun x H1 ⟨ω1, st1, t, x1, rel1, p, q⟩ => by
    obtain ⟨p0, vs, tt, e1, e2, h1, h2⟩ := p
    exact q x ρ σ H1 ω1 rel1 ⟨p0, vs, tt, e1, e2, rel.none0 h1, h2⟩
theorem ss_expr {f : En → Cel → R PV} (hps : ∀ t, PE X e t → PS X s (tDrop t)) (h : PE X e (tv X.K true W f)) : PS X s (ts X.K fr W fun ρ st => (f ρ st).then ρ fun _ st => .nx ρ st) :=
  wPS (hps _ h) fun D σ H ⟨g, ω, ρ, st, rel, q⟩ => (thenG (P := RepM X.K true) rel q).mono fun x H1 ⟨ω1, st1, t, x1, rel1, p, q⟩ => postNx q rel1
theorem ss_asg {f : En → Cel → R PV} {tg : List Nat} {T : TE} (hps : PS X s (tAsg T (gAsg X.K tg))) (hw : ∀ σ H Q, tv X.K false W f σ H Q → T σ H Q) : PS X s (ts X.K fr W fun ρ st => (f ρ st).then ρ fun x st => match assignT tg x ρ with
    | some ρ1 => .nx ρ1 st
    | none => .bad) :=
  wPS hps fun D σ H ⟨g, ω, ρ, st, rel, q⟩ => hw σ H _ ((thenG (P := RepM X.K false) rel q).mono fun x H1 ⟨ω1, st1, t, x1, rel1, p, q⟩ => by
    cases ea : assignT tg t ρ with
    | none => rw [ea] at q; exact q.elim
    | some ρ1 =>
      rw [ea] at q
      exact gAsg_ok rel1 p.rep ea fun vs r => postNx q r)
/-- a name owns a new list -/
theorem Rel.setOwn (r : Rel K g ω ρ st σ H) (i : Nat) {p : Addr} {vs : List V} {ts : List PV} (hp : H p = some (.lst vs)) (hs : ¬ ω.S p) (hc : p ∉ ω.cs) (h0 : g.H0 p = none) (rl : RepL K ω H vs ts)
    (hn : ∀ (j : Nat) (u : PV), ρ[j]? = some (Slot.own u) → σ[j]? ≠ some (some (V.ref p))) : Rel K g ω (ρ.set i (.own (.lst ts))) st (σ.set i (some (.ref p))) H := by
  refine ⟨by simp [r.len], fun j u hj => ?_, fun j u hj => ?_, fun j k u w a hj hk h1 h2 => ?_, r.cells, r.base, r.sub, r.new, r.csp, r.csn, r.cs0⟩
  · rcases get_set hj with ⟨rfl, e⟩ | ⟨ne, e⟩
    · cases e
    · obtain ⟨v', e1, r1⟩ := r.val j u e
      exact ⟨v', by rw [List.getElem?_set_ne ne]; exact e1, r1⟩
  · rcases get_set hj with ⟨rfl, e⟩ | ⟨ne, e⟩
    · cases e
      exact ⟨p, by rw [List.getElem?_set_self (by rw [r.len]; exact lt_of_set hj)], ⟨vs, ts, rfl, hp, rl⟩, hs, hc, h0⟩
    · obtain ⟨a, e1, r1⟩ := r.own j u e
      exact ⟨a, by rw [List.getElem?_set_ne ne]; exact e1, r1⟩
  · rcases get_set hj with ⟨rfl, e⟩ | ⟨ne, e⟩
    · rcases get_set hk with ⟨rfl, e'⟩ | ⟨ne', e'⟩
      · rfl
      · rw [List.getElem?_set_self (by rw [r.len]; exact lt_of_set hj)] at h1
        cases h1
        rw [List.getElem?_set_ne ne'] at h2
        exact absurd h2 (hn k w e')
    · rcases get_set hk with ⟨rfl, e'⟩ | ⟨ne', e'⟩
      · rw [List.getElem?_set_self (by rw [r.len]; exact lt_of_set hk)] at h2
        cases h2
        rw [List.getElem?_set_ne ne] at h1
        exact absurd h1 (hn j u e)
      · rw [List.getElem?_set_ne ne] at h1
        rw [List.getElem?_set_ne ne'] at h2
        exact r.sep j k u w a e e' h1 h2
theorem fresh_notOwn {p : Addr} (rel : Rel K g ω ρ st σ H) (h : H p = none) : ∀ (j : Nat) (u : PV), ρ[j]? = some (Slot.own u) → σ[j]? ≠ some (some (V.ref p)) := fun j u hj z => by
  obtain ⟨a, e1, ⟨vs, ts, _, e2, _⟩, _⟩ := rel.own j u hj
  rw [z] at e1
  cases e1
  rw [h] at e2; cases e2
theorem ss_asgO {f : En → Cel → R PV} {i : Nat} {T : TE} (hps : PS X s (tAsg T (gName i))) (hw : ∀ σ H Q, tvF X.K W f σ H Q → T σ H Q) : PS X s (ts X.K fr W fun ρ st => (f ρ st).then ρ fun x st => match x with
    | .lst xs => .nx (ρ.set i (.own (.lst xs))) st
    | _ => .bad) :=
  wPS hps fun D σ H ⟨g, ω, ρ, st, rel, q⟩ => hw σ H _ ((thenF rel q).mono fun x H1 ⟨ω1, st1, t, x1, rel1, p, q⟩ => by
    obtain ⟨p0, vs, tt, rfl, rfl, h1, h2, h3, h4, h5⟩ := p
    exact postNx q (rel1.setOwn i h2 h3 h4 (rel.none0 h1) h5 fun j u hj => fresh_notOwn rel h1 j u hj))
/-- a new cell -/
theorem Rel.newCell (r : Rel K g ω ρ st σ H) (i : Nat) {p : Addr} {vs : List V} {ts : List PV} (hp : H p = some (.lst vs)) (hs : ¬ ω.S p) (hc : p ∉ ω.cs) (h0 : g.H0 p = none) (rl : RepL K ω H vs ts)
    (hn : ∀ (j : Nat) (u : PV), ρ[j]? = some (Slot.own u) → σ[j]? ≠ some (some (V.ref p))) : Rel K g ⟨ω.S, ω.cs ++ [p]⟩ (ρ.set i (.val (.cell st.length))) (st ++ [.lst ts]) (σ.set i (some (.ref p))) H := by
  have x : Ext ω H ⟨ω.S, ω.cs ++ [p]⟩ H := ⟨fun _ z => z, ⟨[p], rfl⟩, fun _ _ z _ => z⟩
  have hl := r.cells.len
  have c : CelOk K ⟨ω.S, ω.cs ++ [p]⟩ (st ++ [.lst ts]) H := by
    refine ⟨by simp [hl], ?_, fun a ha => ?_, r.cells.trk, fun k a ha => ?_⟩
    · show (ω.cs ++ [p]).Nodup
      rw [List.nodup_append]
      exact ⟨r.cells.nd, by simp, fun a ha b hb => by
        simp at hb
        rintro rfl
        exact hc (hb ▸ ha)⟩
    · rcases List.mem_append.mp ha with z | z
      · exact r.cells.out a z
      · simp at z; rw [z]; exact hs
    · change (ω.cs ++ [p])[k]? = some a at ha
      by_cases hk : k < ω.cs.length
      · rw [List.getElem?_append_left hk] at ha
        obtain ⟨ws, us, q1, q2, q3⟩ := r.cells.at_ k a ha
        exact ⟨ws, us, prefix_get q1, q2, q3.mono x⟩
      · have hk' : k = ω.cs.length := by
          rcases Nat.lt_or_ge k (ω.cs.length + 1) with z | z
          · omega
          · rw [List.getElem?_eq_none (by simp; omega)] at ha; cases ha
        subst hk'
        rw [List.getElem?_append_right (Nat.le_refl _)] at ha
        simp at ha
        subst ha
        exact ⟨vs, ts, by rw [hl, List.getElem?_append_right (Nat.le_refl _)]; simp, hp, rl.mono x⟩
  refine ⟨by simp [r.len], fun j u hj => ?_, fun j u hj => ?_, fun j k u w a hj hk h1 h2 => ?_, c, r.base, r.sub, r.new, ?_, fun a ha => ?_, r.cs0⟩
  · rcases get_set hj with ⟨rfl, e⟩ | ⟨ne, e⟩
    · cases e
      exact ⟨.ref p, by rw [List.getElem?_set_self (by rw [r.len]; exact lt_of_set hj)], .cell (by show (ω.cs ++ [p])[st.length]? = _; rw [← hl, List.getElem?_append_right (Nat.le_refl _)]; simp)⟩
    · obtain ⟨v', e1, r1⟩ := r.val j u e
      exact ⟨v', by rw [List.getElem?_set_ne ne]; exact e1, r1.mono x⟩
  · rcases get_set hj with ⟨rfl, e⟩ | ⟨ne, e⟩
    · cases e
    · obtain ⟨a, e1, ⟨ws, us, q1, q2, q3⟩, n1, n2, n3⟩ := r.own j u e
      refine ⟨a, by rw [List.getElem?_set_ne ne]; exact e1, ⟨ws, us, q1, q2, q3.mono x⟩, n1, fun z => ?_, n3⟩
      rcases List.mem_append.mp z with z | z
      · exact n2 z
      · simp at z
        subst z
        exact hn j u e e1
  · rcases get_set hj with ⟨rfl, e⟩ | ⟨ne, e⟩
    · cases e
    · rcases get_set hk with ⟨rfl, e'⟩ | ⟨ne', e'⟩
      · cases e'
      · rw [List.getElem?_set_ne ne] at h1
        rw [List.getElem?_set_ne ne'] at h2
        exact r.sep j k u w a e e' h1 h2
  · obtain ⟨m, q⟩ := r.csp
    exact ⟨m ++ [p], by show ω.cs ++ [p] = _; rw [q, List.append_assoc]⟩
  · rcases List.mem_append.mp ha with z | z
    · exact r.csn a z
    · simp at z; rw [z]; exact .inr h0
theorem ss_asgC {f : En → Cel → R PV} {i : Nat} {T : TE} (hps : PS X s (tAsg T (gName i))) (hw : ∀ σ H Q, tvF X.K W f σ H Q → T σ H Q) : PS X s (ts X.K fr W fun ρ st => (f ρ st).then ρ fun x st => match x with
    | .lst xs => .nx (ρ.set i (.val (.cell st.length))) (st ++ [.lst xs])
    | _ => .bad) :=
  wPS hps fun D σ H ⟨g, ω, ρ, st, rel, q⟩ => hw σ H _ ((thenF rel q).mono fun x H1 ⟨ω1, st1, t, x1, rel1, p, q⟩ => by
    obtain ⟨p0, vs, tt, rfl, rfl, h1, h2, h3, h4, h5⟩ := p
    exact q _ H1 ⟨ω1.S, ω1.cs ++ [p0]⟩ ⟨fun _ z => z, ⟨[p0], rfl⟩, fun _ _ z _ => z⟩ (rel1.newCell i h2 h3 h4 (rel.none0 h1) h5 fun j u hj => fresh_notOwn rel h1 j u hj))
end
end Ev
namespace Ev
open PySem L2
section
variable {K : PySem.W.Frag} {g : Gh} {ω ω' : Wd} {ρ : En} {st st' : Cel} {σ : St} {H H' : Hp} {X : Cx} {fr : Bool} {W : Wx} {e a b : Expr} {s : Stmt}
/-- an owned list changes -/
theorem Rel.updOwn (r : Rel K g ω ρ st σ H) {i : Nat} {p : Addr} {u : PV} {vs : List V} {ts : List PV} (hi : ρ[i]? = some (Slot.own u)) (hp : σ[i]? = some (some (V.ref p))) (rl : RepL K ω H vs ts) : Rel K g ω (ρ.set i (.own (.lst ts))) st σ (upd H p (.lst vs)) := by
  obtain ⟨a, e1, ⟨ws, us, q1, q2, q3⟩, n1, n2, n3⟩ := r.own i u hi
  rw [hp] at e1
  cases e1
  have x : Ext ω H ω (upd H p (.lst vs)) := extUpd q2 n1
  have il : i < ρ.length := by
    rcases Nat.lt_or_ge i ρ.length with z | z
    · exact z
    · rw [List.getElem?_eq_none z] at hi; cases hi
  refine ⟨by simp [r.len], fun j w hj => ?_, fun j w hj => ?_, fun j k w z a hj hk h1 h2 => ?_, r.cells.upd q2 n1 n2, fun a o h hc => ?_, r.sub, r.new, r.csp, r.csn, r.cs0⟩
  · rcases get_set hj with ⟨rfl, e⟩ | ⟨ne, e⟩
    · cases e
    · obtain ⟨v', e1, r1⟩ := r.val j w e
      exact ⟨v', e1, r1.mono x⟩
  · rcases get_set hj with ⟨rfl, e⟩ | ⟨ne, e⟩
    · cases e
      exact ⟨p, hp, ⟨vs, ts, rfl, upd_same, rl.mono x⟩, n1, n2, n3⟩
    · obtain ⟨a, e1, ⟨ws', us', q1', q2', q3'⟩, m1, m2, m3⟩ := r.own j w e
      have nea : a ≠ p := fun z => ne (r.sep i j u w p hi e hp (by rw [← z]; exact e1))
      exact ⟨a, e1, ⟨ws', us', q1', by rw [upd_ne nea]; exact q2', q3'.mono x⟩, m1, m2, m3⟩
  · have f : ∀ (j : Nat) (w : PV), (ρ.set i (.own (.lst ts)))[j]? = some (Slot.own w) → ∃ w', ρ[j]? = some (Slot.own w') := fun j w hj => by
      rcases get_set hj with ⟨rfl, e⟩ | ⟨ne, e⟩
      · exact ⟨u, hi⟩
      · exact ⟨w, e⟩
    obtain ⟨w', hw⟩ := f j w hj
    obtain ⟨z', hz⟩ := f k z hk
    exact r.sep j k w' z' a hw hz h1 h2
  · rw [upd_ne (fun z => by rw [z, n3] at h; cases h)]
    exact r.base a o h hc
/-- a cell changes -/
theorem Rel.updCell (r : Rel K g ω ρ st σ H) {k : Nat} {p : Addr} {vs : List V} {ts : List PV} (hk : ω.cs[k]? = some p) (rl : RepL K ω H vs ts) : Rel K g ω ρ (st.set k (.lst ts)) σ (upd H p (.lst vs)) := by
  have hm : p ∈ ω.cs := List.mem_of_getElem? hk
  obtain ⟨ws, us, c1, c2, c3⟩ := r.cells.at_ k p hk
  have n1 := r.cells.out p hm
  have x : Ext ω H ω (upd H p (.lst vs)) := extUpd c2 n1
  have c : CelOk K ω (st.set k (.lst ts)) (upd H p (.lst vs)) := by
    refine ⟨by simp [r.cells.len], r.cells.nd, r.cells.out, fun a z => ?_, fun j a ha => ?_⟩
    · obtain ⟨o, q⟩ := r.cells.trk a z
      exact ⟨o, by rw [upd_ne (fun e => n1 (by rw [← e]; exact z))]; exact q⟩
    · by_cases e : k = j
      · subst e
        rw [hk] at ha
        cases ha
        have kl : k < st.length := by
          rcases Nat.lt_or_ge k st.length with z | z
          · exact z
          · rw [List.getElem?_eq_none z] at c1; cases c1
        exact ⟨vs, ts, by rw [List.getElem?_set_self kl], upd_same, rl.mono x⟩
      · obtain ⟨ws', us', q1, q2, q3⟩ := r.cells.at_ j a ha
        have nea : a ≠ p := fun z => by
          subst z
          have jl : j < ω.cs.length := by
            rcases Nat.lt_or_ge j ω.cs.length with z | z
            · exact z
            · rw [List.getElem?_eq_none z] at ha; cases ha
          exact e ((List.getElem?_inj (by
            rcases Nat.lt_or_ge k ω.cs.length with z | z
            · exact z
            · rw [List.getElem?_eq_none z] at hk; cases hk) r.cells.nd).mp (hk.trans ha.symm))
        exact ⟨ws', us', by rw [List.getElem?_set_ne e]; exact q1, by rw [upd_ne nea]; exact q2, q3.mono x⟩
  refine ⟨r.len, fun j w hj => ?_, fun j w hj => ?_, r.sep, c, fun a o h hc => ?_, r.sub, r.new, r.csp, r.csn, r.cs0⟩
  · obtain ⟨v', e1, r1⟩ := r.val j w hj
    exact ⟨v', e1, r1.mono x⟩
  · obtain ⟨a, e1, ⟨ws', us', q1', q2', q3'⟩, m1, m2, m3⟩ := r.own j w hj
    have nea : a ≠ p := fun z => m2 (by rw [z]; exact hm)
    exact ⟨a, e1, ⟨ws', us', q1', by rw [upd_ne nea]; exact q2', q3'.mono x⟩, m1, m2, m3⟩
  · rw [upd_ne (fun z => ?_)]
    · exact r.base a o h hc
    · subst z
      rcases r.csn a hm with z | z
      · exact hc z
      · rw [h] at z; cases z
theorem ss_setI {f fo fi : En → Cel → R PV} (hps : ∀ te to ti, PE X e te → PE X a to → PE X b ti → PS X s (tAsg te (gSub to ti rSetL))) (he : PE X e (tv X.K false W f)) (ho : PE X a (tv X.K false W fo)) (hi : PE X b (tv X.K false W fi)) :
    PS X s (ts X.K fr W fun ρ st => (f ρ st).then ρ fun x st => (fo ρ st).then ρ fun o st => (fi ρ st).then ρ fun j st => match o, j with
      | .cell k, .int j => (match st[k]? with
        | some (.lst xs) => (match ixP xs.length j with
          | some n => .nx ρ (st.set k (.lst (xs.set n x)))
          | none => .bad)
        | _ => .bad)
      | _, _ => .bad) := by
  refine wPS (hps _ _ _ he ho hi) fun D σ H ⟨g, ω, ρ, st, rel, q⟩ => (thenG (P := RepM X.K false) rel q).mono fun x H1 ⟨ω1, st1, t, x1, rel1, p, q⟩ => ?_
  refine (thenG (P := RepM X.K false) (f := fo) rel1 q).mono fun o H2 ⟨ω2, st2, t2, x2, rel2, p2, q2⟩ => ?_
  refine (thenG (P := RepM X.K false) (f := fi) rel2 q2).mono fun j H3 ⟨ω3, st3, t3, x3, rel3, p3, q3⟩ => ?_
  cases t2 with
  | cell k =>
    cases t3 with
    | int n =>
      dsimp only at q3
      obtain ⟨a0, rfl, ha⟩ := (p2.extE x3 rel2.cells).cell
      obtain ⟨vs, us, c1, c2, c3⟩ := rel3.cells.at_ k a0 ha
      rw [c1] at q3
      dsimp only at q3
      cases en : ixP us.length n with
      | none => rw [en] at q3; exact q3.elim
      | some m =>
        rw [en] at q3
        have px := ((p.extE x2 rel1.cells).extE x3 rel2.cells).rep
        refine ⟨a0, vs, n, m, rfl, p3.int, c2, by rw [c3.length]; exact en, ?_⟩
        refine q3 σ _ ω3 (extUpd c2 (rel3.cells.out a0 (List.mem_of_getElem? ha))) (rel3.updCell ha (c3.set px m))
    | _ => exact q3.elim
  | _ => exact q3.elim
theorem ss_app {f : En → Cel → R PV} {i : Nat} (hps : ∀ te to, PE X e te → PE X a to → PS X s (tDrop (tBM X.K "list" rAppend to (tCons te tNil)))) (ha : PE X a (tVar i)) (he : PE X e (tv X.K false W f)) :
    PS X s (ts X.K fr W fun ρ st => match ρ[i]? with
      | some (.own (.lst xs)) => (f ρ st).then ρ fun x st => if szOk (xs.length + 1) then .nx (ρ.set i (.own (.lst (xs ++ [x])))) st else .bad
      | _ => .bad) := by
  refine wPS (hps _ _ he ha) fun D σ H ⟨g, ω, ρ, st, rel, q⟩ => ?_
  dsimp only at q
  split at q
  · rename_i xs hi
    obtain ⟨p0, hp, ⟨vs, us, e1, e2, e3⟩, n1, n2, n3⟩ := rel.own i _ hi
    cases e1
    refine ⟨.ref p0, hp, .inl ⟨rfl, vs, .inl (.inl e2)⟩, (thenG (P := RepM X.K false) (f := f) rel q).mono fun x H1 ⟨ω1, st1, t, x1, rel1, p, q⟩ => ?_⟩
    have e2' := x1.keep _ _ e2 n2
    have n1' : ¬ ω1.S p0 := fun z => by
      rcases x1.newS p0 z with z | z
      · exact n1 z
      · rw [e2] at z; cases z
    by_cases hz : szOk (xs.length + 1) = true
    · rw [if_pos hz] at q
      have hz' := szOk_le hz
      refine ⟨p0, vs, x, rfl, rfl, e2', by rw [e3.length]; omega, ?_⟩
      exact q σ _ ω1 (extUpd e2' n1') (rel1.updOwn hi hp ((e3.mono (x1.ext rel.cells)).append (.cons p.rep .nil)))
    · rw [if_neg hz] at q; exact q.elim
  · exact q.elim
theorem ss_ext {f : En → Cel → R PV} {i : Nat} (hps : ∀ te to, PE X e te → PE X a to → PS X s (tDrop (tBM X.K "list" rExtend to (tCons te tNil)))) (ha : PE X a (tVar i)) (he : PE X e (tv X.K false W f)) :
    PS X s (ts X.K fr W fun ρ st => match ρ[i]? with
      | some (.own (.lst xs)) => (f ρ st).then ρ fun x st => match x with
        | .lst ys => if szOk (xs.length + ys.length) then .nx (ρ.set i (.own (.lst (xs ++ ys)))) st else .bad
        | _ => .bad
      | _ => .bad) := by
  refine wPS (hps _ _ he ha) fun D σ H ⟨g, ω, ρ, st, rel, q⟩ => ?_
  dsimp only at q
  split at q
  · rename_i xs hi
    obtain ⟨p0, hp, ⟨vs, us, e1, e2, e3⟩, n1, n2, n3⟩ := rel.own i _ hi
    cases e1
    refine ⟨.ref p0, hp, .inl ⟨rfl, vs, .inl (.inl e2)⟩, (thenG (P := RepM X.K false) (f := f) rel q).mono fun x H1 ⟨ω1, st1, t, x1, rel1, p, q⟩ => ?_⟩
    have e2' := x1.keep _ _ e2 n2
    have n1' : ¬ ω1.S p0 := fun z => by
      rcases x1.newS p0 z with z | z
      · exact n1 z
      · rw [e2] at z; cases z
    cases t with
    | lst ys =>
      dsimp only at q
      obtain ⟨b0, ws, rfl, hb, rb⟩ := p.lst
      by_cases hz : szOk (xs.length + ys.length) = true
      · rw [if_pos hz] at q
        have hz' := szOk_le hz
        refine ⟨p0, b0, vs, ws, rfl, rfl, e2', hb, by rw [e3.length, rb.length]; exact hz', ?_⟩
        exact q σ _ ω1 (extUpd e2' n1') (rel1.updOwn hi hp ((e3.mono (x1.ext rel.cells)).append rb))
      · rw [if_neg hz] at q; exact q.elim
    | _ => exact q.elim
  · exact q.elim
theorem then_asB (r : R PV) (ρ : En) (k1 k2 : Cel → RS) : r.then ρ (fun x st => ifB x (k1 st) (k2 st)) = (r.bind fun x st => R.of (blV x) st).then ρ fun b st => if b then k1 st else k2 st := by
  cases r with
  | ok x st => cases x <;> try rfl
               rename_i b; cases b <;> rfl
  | exc e st => rfl
  | bad => rfl
theorem ss_if {ft : En → Cel → R PV} {f f' : En → Cel → RS} {c : Expr} {as bs : List Stmt} (hps : ∀ tt ta tb, PT X c tt → PSs X as ta → PSs X bs tb → PS X s (tIfS tt ta tb)) (hc : PT X c (tvbb X.K W (asB ft))) (ha : PSs X as (ts X.K fr W f)) (hb : PSs X bs (ts X.K fr W f')) :
    PS X s (ts X.K fr W fun ρ st => (ft ρ st).then ρ fun x st => ifB x (f ρ st) (f' ρ st)) := by
  refine wPS (hps _ _ _ hc ha hb) fun D σ H ⟨g, ω, ρ, st, rel, q⟩ => ?_
  dsimp only at q
  rw [then_asB (ft ρ st) ρ (fun st => f ρ st) (fun st => f' ρ st)] at q
  refine (thenG (P := RBB) (f := asB ft) rel q).mono fun x H1 ⟨ω1, st1, t, x1, rel1, p, q⟩ => ?_
  cases (show t = x from p)
  cases x with
  | true => exact ⟨g, ω1, ρ, st1, rel1, q⟩
  | false => exact ⟨g, ω1, ρ, st1, rel1, q⟩
theorem ss_pass (h : PS X s tNext) : PS X s (ts X.K fr W fun ρ st => .nx ρ st) := wPS h fun D σ H ⟨g, ω, ρ, st, rel, q⟩ => postNx q rel
theorem ss_brk (h : PS X s tBreak) : PS X s (ts X.K fr W fun ρ st => .bk ρ st) := wPS h fun D σ H ⟨g, ω, ρ, st, rel, q⟩ => q σ H ω (Ext.refl _ _) rel
theorem ss_cnt (h : PS X s tCont) : PS X s (ts X.K fr W fun ρ st => .ct ρ st) := wPS h fun D σ H ⟨g, ω, ρ, st, rel, q⟩ => q σ H ω (Ext.refl _ _) rel
theorem sss_nil : PSs X [] (ts X.K fr W fun ρ st => .nx ρ st) := wPSs pss_nil fun D σ H ⟨g, ω, ρ, st, rel, q⟩ => postNx q rel
theorem seqS {f : En → Cel → RS} {f' : En → Cel → RS} {D : Ends} (rel : Rel K g ω ρ st σ H) (q : postS K fr g ω H W ((f ρ st).seq f') D) : ts K fr W f { D with nx := fun σ1 H1 => ts K fr W f' D σ1 H1 } σ H := by
  refine ⟨g, ω, ρ, st, rel, ?_⟩
  cases e1 : f ρ st with
  | nx ρ1 st1 =>
    rw [e1] at q
    exact fun σ' H' ω' x r => ⟨g, ω', ρ1, st1, r, postS.ext q x⟩
  | bk ρ1 st1 => rw [e1] at q; exact q
  | ct ρ1 st1 => rw [e1] at q; exact q
  | rt v st1 => rw [e1] at q; exact q
  | exc x ρ1 st1 => rw [e1] at q; exact q
  | bad => rw [e1] at q; exact q
theorem sss_cons {f f' : En → Cel → RS} {ss : List Stmt} (h1 : PS X s (ts X.K fr W f)) (h2 : PSs X ss (ts X.K fr W f')) : PSs X (s :: ss) (ts X.K fr W fun ρ st => (f ρ st).seq fun ρ st => f' ρ st) :=
  wPSs (pss_cons h1 h2) fun D σ H ⟨g, ω, ρ, st, rel, q⟩ => seqS rel q
/-- a list is owned no more -/
theorem Rel.frz (r : Rel K g ω ρ st σ H) {i : Nat} {u : PV} (hi : ρ[i]? = some (Slot.own u)) : ∃ ω', Ext ω H ω' H ∧ Rel K g ω' (ρ.set i (.val u)) st σ H := by
  obtain ⟨p, hp, ⟨vs, us, rfl, q2, q3⟩, n1, n2, n3⟩ := r.own i u hi
  have x : Ext ω H (ω.add p) H := ⟨fun _ z => .inl z, ⟨[], by simp [Wd.add]⟩, fun _ _ z _ => z⟩
  refine ⟨ω.add p, x, ⟨by simp [r.len], fun j w hj => ?_, fun j w hj => ?_, fun j k w z a hj hk h1 h2 => ?_, r.cells.add n2 q2, r.base, fun a h => .inl (r.sub a h), fun a h => ?_, r.csp, r.csn, r.cs0⟩⟩
  · rcases get_set hj with ⟨rfl, e⟩ | ⟨ne, e⟩
    · cases e
      exact ⟨.ref p, hp, .lst (.inr rfl) q2 (q3.mono x)⟩
    · obtain ⟨v', e1, r1⟩ := r.val j w e
      exact ⟨v', e1, r1.mono x⟩
  · rcases get_set hj with ⟨rfl, e⟩ | ⟨ne, e⟩
    · cases e
    · obtain ⟨a, e1, ⟨ws', us', q1', q2', q3'⟩, m1, m2, m3⟩ := r.own j w e
      refine ⟨a, e1, ⟨ws', us', q1', q2', q3'.mono x⟩, fun z => ?_, m2, m3⟩
      rcases z with z | z
      · exact m1 z
      · subst z
        exact ne (r.sep i j _ w a hi e hp e1)
  · rcases get_set hj with ⟨rfl, e⟩ | ⟨ne, e⟩
    · cases e
    · rcases get_set hk with ⟨rfl, e'⟩ | ⟨ne', e'⟩
      · cases e'
      · exact r.sep j k w z a e e' h1 h2
  · rcases h with h | h
    · exact r.new a h
    · rw [h]; exact .inr n3
theorem sss_frz {f : En → Cel → RS} {i : Nat} {ss : List Stmt} (h : PSs X ss (ts X.K fr W f)) : PSs X ss (ts X.K fr W fun ρ st => (match ρ[i]? with
    | some (.own v) => RS.nx (ρ.set i (.val v)) st
    | _ => .nx ρ st).seq fun ρ st => f ρ st) := by
  refine wPSs h fun D σ H ⟨g, ω, ρ, st, rel, q⟩ => ?_
  dsimp only at q
  split at q
  · rename_i v hi
    obtain ⟨ω', x, r'⟩ := rel.frz hi
    exact ⟨g, ω', _, st, r', postS.ext q x⟩
  · exact ⟨g, ω, ρ, st, rel, q⟩
theorem gPar_ok : ∀ (is : List Nat) {vs : List V} {ts : List PV} {ρ : En} {σ : St}, Rel K g ω ρ st σ H → RepL K ω H vs ts → vs.length = is.length → Rel K g ω (setAll ρ (is.zip ts)) st (setS σ is vs) H
  | [], _, _, _, _, r, .nil, _ => r
  | i :: is, _, _, ρ, σ, r, .cons h hs, hl => gPar_ok is (r.set i h) hs (by simpa using hl)
theorem ss_par {f : En → Cel → R (List PV)} {is : List Nat} {es : List Expr} (hps : PS X s (fun D σ H => tvs X.K W f σ H fun vs H1 => vs.length = is.length ∧ D.nx (setS σ is vs) H1)) :
    PS X s (ts X.K fr W fun ρ st => (f ρ st).then ρ fun xs st => if xs.length = is.length then .nx ((is.zip xs).foldl (fun ρ p => set1 ρ p.1 p.2) ρ) st else .bad) :=
  wPS hps fun D σ H ⟨g, ω, ρ, st, rel, q⟩ => (thenG (P := RepL X.K) rel q).mono fun vs H1 ⟨ω1, st1, t, x1, rel1, p, q⟩ => by
    by_cases hl : t.length = is.length
    · rw [if_pos hl] at q
      exact ⟨by rw [p.length]; exact hl, postNx q (gPar_ok is rel1 p (by rw [p.length]; exact hl))⟩
    · rw [if_neg hl] at q; exact q.elim
theorem ss_ustar {f : En → Cel → R PV} {is : List Nat} {j : Nat} (hps : PS X s (tAsg (tv X.K false W f) (gStar X.K is.length (gNames (is ++ [j]))))) : PS X s (ts X.K fr W fun ρ st => (f ρ st).then ρ fun x st => match x with
    | .tup xs => if is.length ≤ xs.length ∧ xs.length ≤ 16384 then .nx (set1 ((is.zip (xs.take is.length)).foldl (fun ρ p => set1 ρ p.1 p.2) ρ) j (.lst (xs.drop is.length))) st else .bad
    | _ => .bad) :=
  wPS hps fun D σ H ⟨g, ω, ρ, st, rel, q⟩ => (thenG (P := RepM X.K false) rel q).mono fun x H1 ⟨ω1, st1, t, x1, rel1, p, q⟩ => by
    cases t with
    | tup xs =>
      obtain ⟨a, vs, rfl, hT, rv⟩ := p.tup
      dsimp only at q
      by_cases hl : is.length ≤ xs.length ∧ xs.length ≤ 16384
      · rw [if_pos hl] at q
        refine ⟨a, vs, rfl, hT, by rw [rv.length]; exact hl.1, by rw [rv.length]; exact hl.2, fun d hd => ?_⟩
        have gr : Grow ω1 H1 (ω1.add d) (upd H1 d (.lst (vs.drop is.length))) := Grow.add hd
        have rl : RepL X.K (ω1.add d) (upd H1 d (.lst (vs.drop is.length))) (vs.take is.length ++ [.ref d]) (xs.take is.length ++ [.lst (xs.drop is.length)]) :=
          ((rv.take _).mono gr.ext).append (.cons (.lst (.inr rfl) upd_same ((rv.drop _).mono gr.ext)) .nil)
        refine gNames_ok (is ++ [j]) (rel1.grow gr) rl (by rw [List.length_append, List.length_take, rv.length, Nat.min_eq_left hl.1]; simp) fun r' => ?_
        have ez : setAll ρ ((is ++ [j]).zip (xs.take is.length ++ [.lst (xs.drop is.length)])) = set1 ((is.zip (xs.take is.length)).foldl (fun ρ p => set1 ρ p.1 p.2) ρ) j (.lst (xs.drop is.length)) := by
          unfold setAll
          rw [List.zip_append (by rw [List.length_take, Nat.min_eq_left hl.1]), List.foldl_append]
          rfl
        rw [ez] at r'
        exact q _ _ _ gr.ext r'
      · rw [if_neg hl] at q; exact q.elim
    | _ => exact q.elim
end
end Ev
namespace Ev
open PySem L2
section
variable {K : PySem.W.Frag} {g : Gh} {ω ω' : Wd} {ρ : En} {st st' : Cel} {σ : St} {H H' : Hp} {X : Cx} {fr : Bool} {W : Wx} {e a b : Expr} {s : Stmt}
def bodyF (f : En → Cel → RS) (tg : List Nat) : PV → En → Cel → RS := fun x ρ st => match assignT tg x ρ with
  | some ρ1 => f ρ1 st
  | none => .bad
theorem ss_for {fi : En → Cel → R PV} {f : En → Cel → RS} {tg : List Nat} {t it : Expr} {body : List Stmt} (hps : ∀ wi gt tb, PI X t it wi → PG X t gt → PSs X body tb → PS X s (tFor wi gt tb)) (hi : PI X t it (ti X.K false W fi)) (hg : PG X t (gAsg X.K tg)) (hb : PSs X body (ts X.K fr W f)) :
    PS X s (ts X.K fr W fun ρ st => (fi ρ st).then ρ fun iv st => match itemsOf iv with
      | some xs => forL (bodyF f tg) xs ρ st
      | none => .bad) := by
  refine wPS (hps _ _ _ hi hg hb) fun D σ H ⟨g, ω, ρ, st, rel, q⟩ => ?_
  refine ⟨g, ω, ρ, st, rel, ?_⟩
  dsimp only at q
  cases e1 : fi ρ st with
  | bad => rw [e1] at q; exact q
  | exc x s1 =>
    rw [e1] at q
    exact fun H1 ω1 x1 c => q σ H1 ω1 (x1.ext rel.cells) (rel.extE x1 c)
  | ok iv s1 =>
    rw [e1] at q
    simp only [R.then_ok] at q
    cases e2 : itemsOf iv with
    | none => rw [e2] at q; exact q.elim
    | some xs =>
      rw [e2] at q
      refine ⟨xs, e2, fun J H1 ω1 x1 c1 hJ => ?_⟩
      refine ⟨fun i m σ' H' => m = xs.length - i ∧ i ≤ xs.length ∧ ∃ ω' ρ' st', Ext ω1 H1 ω' H' ∧ Rel X.K g ω' ρ' st' σ' H' ∧ postS X.K fr g ω' H' W (forL (bodyF f tg) (xs.drop i) ρ' st') D,
        ⟨xs.length, by simp, Nat.zero_le _, ω1, ρ, s1, Ext.refl _ _, rel.extE x1 c1, postS.ext q (x1.ext rel.cells)⟩, ?_⟩
      rintro i m σ2 H2 ⟨rfl, hi, ω2, ρ2, st2, x2, rel2, q2⟩
      obtain ⟨go, stop, yld⟩ := hJ ω2 H2 x2 (fun z => by cases z)
      rcases Nat.lt_or_ge i xs.length with hlt | hge
      rotate_left
      · have ei : i = xs.length := by omega
        subst ei
        rw [List.drop_length] at q2
        exact .inl ⟨stop, postNx q2 rel2⟩
      · refine .inr ⟨go i hlt, fun σ' H' => i + 1 ≤ xs.length ∧ ∃ ω' ρ' st', Ext ω1 H1 ω' H' ∧ Rel X.K g ω' ρ' st' σ' H' ∧ postS X.K fr g ω' H' W (forL (bodyF f tg) (xs.drop (i + 1)) ρ' st') D,
          fun σ' H' hN => ⟨xs.length - (i + 1), by omega, rfl, hN.1, hN.2⟩, fun x H3 hy => ?_⟩
        obtain ⟨ω3, t3, w3, ex, rx⟩ := yld i x H3 hlt hy
        have rel3 := rel2.grow w3
        have x3 : Ext ω1 H1 ω3 H3 := x2.trans w3.ext
        have q3 := postS.ext q2 w3.ext
        rw [drop_cons ex] at q3
        unfold forL at q3
        cases ea : assignT tg t3 ρ2 with
        | none =>
          unfold bodyF at q3
          rw [ea] at q3
          exact q3.elim
        | some ρ3 =>
          have ef : bodyF f tg t3 ρ2 st2 = f ρ3 st2 := by
            unfold bodyF
            rw [ea]
          rw [ef] at q3
          refine gAsg_ok rel3 rx ea fun ws relT => ⟨g, ω3, ρ3, st2, relT, ?_⟩
          cases eb : f ρ3 st2 with
          | nx ρ4 st4 =>
            rw [eb] at q3
            exact fun σ4 H4 ω4 x4 rel4 => ⟨hlt, ω4, ρ4, st4, x3.trans x4, rel4, postS.ext q3 x4⟩
          | ct ρ4 st4 =>
            rw [eb] at q3
            exact fun σ4 H4 ω4 x4 rel4 => ⟨hlt, ω4, ρ4, st4, x3.trans x4, rel4, postS.ext q3 x4⟩
          | bk ρ4 st4 => rw [eb] at q3; exact q3
          | rt v st4 => rw [eb] at q3; exact q3
          | exc x4 ρ4 st4 => rw [eb] at q3; exact q3
          | bad => rw [eb] at q3; exact q3
theorem ss_while {ft : En → Cel → R PV} {f : En → Cel → RS} {n : Nat} {c : Expr} {body : List Stmt} (hps : ∀ tt tb, PT X c tt → PSs X body tb → PS X s (tWhile tt tb)) (hc : PT X c (tvbb X.K W (asB ft))) (hb : PSs X body (ts X.K fr W f)) :
    PS X s (ts X.K fr W fun ρ st => whileL ft f n ρ st) := by
  refine wPS (hps _ _ hc hb) fun D σ H ⟨g, ω, ρ, st, rel, q⟩ => ?_
  refine ⟨fun m σ' H' => ∃ ω' ρ' st', Ext ω H ω' H' ∧ Rel X.K g ω' ρ' st' σ' H' ∧ postS X.K fr g ω' H' W (whileL ft f m ρ' st') D, ⟨n, ω, ρ, st, Ext.refl _ _, rel, q⟩, ?_⟩
  rintro m σ2 H2 ⟨ω2, ρ2, st2, x2, rel2, q2⟩
  cases m with
  | zero => exact q2.elim
  | succ m =>
    unfold whileL at q2
    rw [then_asB (ft ρ2 st2) ρ2 (fun st => nextL (f ρ2 st) fun ρ1 st1 => whileL ft f m ρ1 st1) (fun st => .nx ρ2 st)] at q2
    refine (thenG (P := RBB) (f := asB ft) rel2 q2).mono fun x H3 ⟨ω3, st3, t, x3, rel3, p, q3⟩ => ?_
    cases (show t = x from p)
    have x23 : Ext ω H ω3 H3 := x2.trans (x3.ext rel2.cells)
    cases x with
    | false => exact postNx q3 rel3
    | true =>
      rw [if_pos rfl]
      rw [if_pos rfl] at q3
      refine ⟨fun σ' H' => ∃ ω' ρ' st', Ext ω H ω' H' ∧ Rel X.K g ω' ρ' st' σ' H' ∧ postS X.K fr g ω' H' W (whileL ft f m ρ' st') D, fun σ' H' hN => ⟨m, Nat.lt_succ_self m, hN⟩, ⟨g, ω3, ρ2, st3, rel3, ?_⟩⟩
      cases eb : f ρ2 st3 with
      | nx ρ4 st4 =>
        rw [eb] at q3
        exact fun σ4 H4 ω4 x4 rel4 => ⟨ω4, ρ4, st4, x23.trans x4, rel4, postS.ext q3 x4⟩
      | ct ρ4 st4 =>
        rw [eb] at q3
        exact fun σ4 H4 ω4 x4 rel4 => ⟨ω4, ρ4, st4, x23.trans x4, rel4, postS.ext q3 x4⟩
      | bk ρ4 st4 => rw [eb] at q3; exact q3
      | rt v st4 => rw [eb] at q3; exact q3
      | exc x4 ρ4 st4 => rw [eb] at q3; exact q3
      | bad => rw [eb] at q3; exact q3
end
end Ev
namespace Ev
open PySem L2
section
variable {X : Cx} {W : Wx} {e a b : Expr} {s : Stmt} {K : PySem.W.Frag} {fr : Bool} {g : Gh} {ω ω' : Wd} {ρ : En} {st st' : Cel} {σ : St} {H H' : Hp}
/-! ### an owned list that changes -/
theorem RepL.eraseIdx : ∀ {vs : List V} {ts : List PV} (n : Nat), RepL K ω H vs ts → RepL K ω H (vs.eraseIdx n) (ts.eraseIdx n)
  | _, _, _, .nil => .nil
  | _, _, 0, .cons _ r => r
  | _, _, n + 1, .cons h r => .cons h (RepL.eraseIdx n r)
theorem RepL.dropLast {vs : List V} {ts : List PV} (r : RepL K ω H vs ts) : RepL K ω H vs.dropLast ts.dropLast := by
  rw [List.dropLast_eq_take, List.dropLast_eq_take, r.length]
  exact r.take _
/-- the owned list stands while something is worked out -/
theorem own_keep {p0 : Addr} {vs : List V} {ts : List PV} (x1 : ExtE ω H ω' H') (c : CelOk K ω st H) (e2 : H p0 = some (.lst vs)) (n1 : ¬ ω.S p0) (n2 : p0 ∉ ω.cs) (r : RepL K ω H vs ts) : H' p0 = some (.lst vs) ∧ ¬ ω'.S p0 ∧ p0 ∉ ω'.cs ∧ RepL K ω' H' vs ts := by
  refine ⟨x1.keep _ _ e2 n2, fun z => ?_, fun z => ?_, r.mono (x1.ext c)⟩
  · rcases x1.newS p0 z with z | z
    · exact n1 z
    · rw [e2] at z; cases z
  · rcases x1.newC p0 z with z | z
    · exact n2 z
    · rw [e2] at z; cases z
theorem ss_popA {i : Nat} {tg : List Nat} (hps : ∀ to, PE X a to → PS X s (tAsg (tBM0 X.K "list" rPop to) (gAsg X.K tg))) (ha : PE X a (tVar i)) :
    PS X s (ts X.K fr W fun ρ st => match ρ[i]? with
    | some (.own (.lst xs)) => (match xs[xs.length - 1]? with
      | some y => (match assignT tg y (ρ.set i (.own (.lst xs.dropLast))) with
        | some ρ1 => .nx ρ1 st
        | none => .bad)
      | none => .bad)
    | _ => .bad) := by
  refine wPS (hps _ ha) fun D σ H ⟨g, ω, ρ, st, rel, q⟩ => ?_
  dsimp only at q
  split at q
  · rename_i xs hi
    obtain ⟨p0, hp, ⟨vs, us, e1, e2, e3⟩, n1, n2, n3⟩ := rel.own i _ hi
    cases e1
    split at q
    · rename_i y hy
      split at q
      · rename_i ρ1 ha1
        obtain ⟨v, hv, rv⟩ := e3.get hy
        rw [← e3.length] at hv
        refine ⟨.ref p0, hp, .inl ⟨rfl, vs, .inl (.inl e2)⟩, ⟨p0, vs, v, rfl, rfl, e2, hv, ?_⟩⟩
        have up := extUpd (ω := ω) (o := .lst vs.dropLast) e2 n1
        refine gAsg_ok (rel.updOwn hi hp e3.dropLast) (rv.mono up) ha1 fun ws r2 => ?_
        exact q _ _ ω up r2
      · exact q.elim
    · exact q.elim
  · exact q.elim
theorem ss_popK {f : En → Cel → R PV} {i : Nat} (hps : ∀ te to, PE X e te → PE X a to → PS X s (tDrop (tBM X.K "list" rPopAt to (tCons te tNil)))) (ha : PE X a (tVar i)) (he : PE X e (tv X.K false W f)) :
    PS X s (ts X.K fr W fun ρ st => match ρ[i]? with
      | some (.own (.lst xs)) => (f ρ st).then ρ fun z st => (match popI xs z with
        | some ys => .nx (ρ.set i (.own (.lst ys))) st
        | none => .bad)
      | _ => .bad) := by
  refine wPS (hps _ _ he ha) fun D σ H ⟨g, ω, ρ, st, rel, q⟩ => ?_
  dsimp only at q
  split at q
  · rename_i xs hi
    obtain ⟨p0, hp, ⟨vs, us, e1, e2, e3⟩, n1, n2, n3⟩ := rel.own i _ hi
    cases e1
    refine ⟨.ref p0, hp, .inl ⟨rfl, vs, .inl (.inl e2)⟩, (thenG (P := RepM X.K false) (f := f) rel q).mono fun x H1 ⟨ω1, st1, t, x1, rel1, p, q⟩ => ?_⟩
    obtain ⟨k1, k2, k3, k4⟩ := own_keep x1 rel.cells e2 n1 n2 e3
    cases e4 : popI xs t with
    | none => rw [e4] at q; exact q.elim
    | some ys =>
      rw [e4] at q
      cases t with
      | int n =>
        change (if rOk n then (ixP xs.length n).map (fun m => xs.eraseIdx m) else none) = some ys at e4
        split at e4
        · rename_i hr
          obtain ⟨b1, b2⟩ := rOk_le hr
          cases e5 : ixP xs.length n with
          | none => rw [e5] at e4; cases e4
          | some m =>
            rw [e5] at e4
            cases e4
            obtain ⟨z1, z2, z3, z4⟩ := ixN_seq (show ixN xs.length n = some m from e5)
            obtain ⟨v, hv, _⟩ := k4.get (List.getElem?_eq_getElem z2)
            refine ⟨p0, vs, n, m, v, rfl, by rw [p.int], k1, by omega, by omega, by rw [k4.length]; exact z1, hv, ?_⟩
            exact q σ _ ω1 (extUpd k1 k2) (rel1.updOwn hi hp (k4.eraseIdx m))
        · cases e4
      | _ => cases e4
  · exact q.elim
abbrev rIns : V → List V → Hp → VK → Prop := fun x vs H Q => ∃ (l : Addr) (xs : List V) (i : Int) (y : V), x = .ref l ∧ vs = [.int i, y] ∧ H l = some (.lst xs) ∧ xs.length < sizeLine ∧ 0 ≤ i ∧ i < 2 ^ 63 ∧ Q .non (upd H l (.lst (xs.take i.toNat ++ [y] ++ xs.drop i.toNat)))
theorem ss_insO {f f' : En → Cel → R PV} {i : Nat} (hps : ∀ ta te to, PE X b ta → PE X e te → PE X a to → PS X s (tDrop (tBM X.K "list" rIns to (tCons ta (tCons te tNil))))) (ha : PE X a (tVar i)) (hb : PE X b (tv X.K false W f)) (he : PE X e (tv X.K false W f')) :
    PS X s (ts X.K fr W fun ρ st => match ρ[i]? with
      | some (.own (.lst xs)) => (f ρ st).then ρ fun z st => (f' ρ st).then ρ fun x st => (match insI xs z x with
        | some ys => .nx (ρ.set i (.own (.lst ys))) st
        | none => .bad)
      | _ => .bad) := by
  refine wPS (hps _ _ _ hb he ha) fun D σ H ⟨g, ω, ρ, st, rel, q⟩ => ?_
  dsimp only at q
  split at q
  · rename_i xs hi
    obtain ⟨p0, hp, ⟨vs, us, e1, e2, e3⟩, n1, n2, n3⟩ := rel.own i _ hi
    cases e1
    refine ⟨.ref p0, hp, .inl ⟨rfl, vs, .inl (.inl e2)⟩, (thenG (P := RepM X.K false) (f := f) rel q).mono fun x H1 ⟨ω1, st1, t, x1, rel1, p, q⟩ => ?_⟩
    obtain ⟨k1, k2, k3, k4⟩ := own_keep x1 rel.cells e2 n1 n2 e3
    refine (thenG (P := RepM X.K false) (f := f') rel1 q).mono fun y H2 ⟨ω2, st2, u, x2, rel2, p2, q2⟩ => ?_
    obtain ⟨l1, l2, l3, l4⟩ := own_keep x2 rel1.cells k1 k2 k3 k4
    cases e4 : insI xs t u with
    | none => rw [e4] at q2; exact q2.elim
    | some ys =>
      rw [e4] at q2
      cases t with
      | int n =>
        change (if 0 ≤ n && n < 2 ^ 62 && szOk (xs.length + 1) then some (xs.take n.toNat ++ [u] ++ xs.drop n.toNat) else none) = some ys at e4
        split at e4
        · rename_i hz
          cases e4
          simp only [Bool.and_eq_true, decide_eq_true_eq] at hz
          have hz' := szOk_le hz.2
          refine ⟨p0, vs, n, y, rfl, by rw [p.int], l1, by rw [l4.length]; omega, hz.1.1, by omega, ?_⟩
          exact q2 σ _ ω2 (extUpd l1 l2) (rel2.updOwn hi hp (((l4.take _).append (.cons p2.rep .nil)).append (l4.drop _)))
        · cases e4
      | _ => cases e4
  · exact q.elim
theorem ss_setO {f f' : En → Cel → R PV} {i : Nat} (hps : ∀ te ta to, PE X e te → PE X b ta → PE X a to → PS X s (tAsg te (gSub to ta rSetL))) (ha : PE X a (tVar i)) (he : PE X e (tv X.K false W f)) (hb : PE X b (tv X.K false W f')) :
    PS X s (ts X.K fr W fun ρ st => match ρ[i]? with
      | some (.own (.lst xs)) => (f ρ st).then ρ fun x st => (f' ρ st).then ρ fun z st => (match setI' xs z x with
        | some ys => .nx (ρ.set i (.own (.lst ys))) st
        | none => .bad)
      | _ => .bad) := by
  refine wPS (hps _ _ _ he hb ha) fun D σ H ⟨g, ω, ρ, st, rel, q⟩ => ?_
  dsimp only at q
  split at q
  · rename_i xs hi
    obtain ⟨p0, hp, ⟨vs, us, e1, e2, e3⟩, n1, n2, n3⟩ := rel.own i _ hi
    cases e1
    refine (thenG (P := RepM X.K false) (f := f) rel q).mono fun x H1 ⟨ω1, st1, t, x1, rel1, p, q⟩ => ?_
    obtain ⟨k1, k2, k3, k4⟩ := own_keep x1 rel.cells e2 n1 n2 e3
    refine ⟨.ref p0, hp, (thenG (P := RepM X.K false) (f := f') rel1 q).mono fun y H2 ⟨ω2, st2, u, x2, rel2, p2, q2⟩ => ?_⟩
    obtain ⟨l1, l2, l3, l4⟩ := own_keep x2 rel1.cells k1 k2 k3 k4
    have pp := p.extE x2 rel1.cells
    cases e4 : setI' xs u t with
    | none => rw [e4] at q2; exact q2.elim
    | some ys =>
      rw [e4] at q2
      cases u with
      | int n =>
        change (ixP xs.length n).map (fun m => xs.set m t) = some ys at e4
        cases e5 : ixP xs.length n with
        | none => rw [e5] at e4; cases e4
        | some m =>
          rw [e5] at e4
          cases e4
          refine ⟨p0, vs, n, m, rfl, p2.int, l1, by rw [l4.length]; exact e5, ?_⟩
          exact q2 σ _ ω2 (extUpd l1 l2) (rel2.updOwn hi hp (l4.set pp.rep m))
      | _ => cases e4
  · exact q.elim
/-- two values for two names, at once or by a tuple -/
abbrev tP1 (i j : Nat) (ta tb : TE) : TS := fun D σ H => tCons ta (tCons tb tNil) σ H fun vs H1 => ∃ v w, vs = [v, w] ∧ D.nx ((σ.set i (some v)).set j (some w)) H1
abbrev tP2 (K : PySem.W.Frag) (i j : Nat) (ta tb : TE) : TS := tAsg (tTup (tCons ta (tCons tb tNil))) (gAsg K [i, j])
def PrS (X : Cx) (s : Stmt) (i j : Nat) (a b : Expr) : Prop := (∀ ta tb, PE X a ta → PE X b tb → PS X s (tP1 i j ta tb)) ∨ (∀ ta tb, PE X a ta → PE X b tb → PS X s (tP2 X.K i j ta tb))
theorem p2_end {K : PySem.W.Frag} {D : Ends} {σ : St} {H1 : Hp} {i j : Nat} {v w : V} (q : ∀ p, H1 p = none → D.nx ((σ.set i (some v)).set j (some w)) (upd H1 p (.tup [v, w]))) : ([v, w] : List V).length ≤ sizeLine ∧ ∀ p, H1 p = none → gAsg K [i, j] (.ref p) σ (upd H1 p (.tup [v, w])) D.nx :=
  ⟨by rw [sizeLine_eq]; simp, fun p hp => .inl ⟨p, [v, w], rfl, .inl (.inl upd_same), rfl, _, _, rfl, _, _, rfl, rfl, q p hp⟩⟩
theorem postNx2 {W : Wx} {D : Ends} {ρ' : En} {σ' : St} {vs : List V} (h : postS K fr g ω H W (.nx ρ' st') D) (r : Rel K g ω ρ' st' σ' H) : D.nx σ' H ∧ ∀ p, H p = none → D.nx σ' (upd H p (.tup vs)) :=
  ⟨postNx h r, fun p hp => h σ' _ ω (Grow.upd hp).ext (r.grow (Grow.upd hp))⟩
theorem set_notOwn {i j : Nat} {p : Addr} {t : PV} {v : V} (rel : Rel K g ω ρ st σ H) (hn : ∀ (j : Nat) (u : PV), ρ[j]? = some (Slot.own u) → σ[j]? ≠ some (some (V.ref p))) : ∀ (j : Nat) (u : PV), (ρ.set i (.val t))[j]? = some (Slot.own u) → (σ.set i (some v))[j]? ≠ some (some (V.ref p)) := fun j u hj z => by
  rcases get_set hj with ⟨rfl, e⟩ | ⟨ne, e⟩
  · cases e
  · rw [List.getElem?_set_ne ne] at z
    exact hn j u e z
theorem ss_parVO {f f' : En → Cel → R PV} {i j : Nat} (hps : PrS X s i j a b) (ha : PE X a (tv X.K false W f)) (hb : PE X b (tvF X.K W f')) :
    PS X s (ts X.K fr W fun ρ st => (f ρ st).then ρ fun x st => (f' ρ st).then ρ fun y st => (match lstOf y with
      | some ys => if i = j then .bad else .nx ((ρ.set i (.val x)).set j (.own (.lst ys))) st
      | none => .bad)) := by
  have key : ∀ {D : Ends} {σ : St} {g : Gh} {ω : Wd} {ρ : En} {st : Cel} {H H1 H2 : Hp} {ω1 ω2 : Wd} {st1 st2 : Cel} {t u : PV} {x y : V}, Rel X.K g ω ρ st σ H → ExtE ω H ω1 H1 → Rel X.K g ω1 ρ st1 σ H1 → RepM X.K false ω1 H1 x t → ExtE ω1 H1 ω2 H2 → Rel X.K g ω2 ρ st2 σ H2 → FreshP X.K H1 ω2 H2 y u →
      postS X.K fr g ω2 H2 W (match lstOf u with
        | some ys => if i = j then .bad else .nx ((ρ.set i (.val t)).set j (.own (.lst ys))) st2
        | none => .bad) D → D.nx ((σ.set i (some x)).set j (some y)) H2 ∧ ∀ p, H2 p = none → D.nx ((σ.set i (some x)).set j (some y)) (upd H2 p (.tup [x, y])) := by
    intro D σ g ω ρ st H H1 H2 ω1 ω2 st1 st2 t u x y rel x1 rel1 p x2 rel2 p2 q2
    obtain ⟨p0, vs, us, rfl, rfl, h1, h2, h3, h4, h5⟩ := p2
    have pp := (p.extE x2 rel1.cells).rep
    by_cases hij : i = j
    · change postS _ _ _ _ _ _ (if i = j then .bad else _) _ at q2
      rw [if_pos hij] at q2; exact q2.elim
    · change postS _ _ _ _ _ _ (if i = j then .bad else _) _ at q2
      rw [if_neg hij] at q2
      refine postNx2 q2 ?_
      exact (rel2.set i pp).setOwn j h2 h3 h4 (rel1.none0 h1) h5 (set_notOwn (j := j) rel2 fun k w hk => fresh_notOwn rel1 h1 k w hk)
  rcases hps with hps | hps
  · refine wPS (hps _ _ ha hb) fun D σ H ⟨g, ω, ρ, st, rel, q⟩ => ?_
    refine (thenG (P := RepM X.K false) (f := f) rel q).mono fun x H1 ⟨ω1, st1, t, x1, rel1, p, q⟩ => ?_
    refine (thenF (f := f') rel1 q).mono fun y H2 ⟨ω2, st2, u, x2, rel2, p2, q2⟩ => ?_
    exact ⟨x, y, rfl, (key rel x1 rel1 p x2 rel2 p2 q2).1⟩
  · refine wPS (hps _ _ ha hb) fun D σ H ⟨g, ω, ρ, st, rel, q⟩ => ?_
    refine (thenG (P := RepM X.K false) (f := f) rel q).mono fun x H1 ⟨ω1, st1, t, x1, rel1, p, q⟩ => ?_
    refine (thenF (f := f') rel1 q).mono fun y H2 ⟨ω2, st2, u, x2, rel2, p2, q2⟩ => ?_
    exact p2_end (key rel x1 rel1 p x2 rel2 p2 q2).2
theorem ss_parOV {f f' : En → Cel → R PV} {i j : Nat} (hps : PrS X s i j a b) (ha : PE X a (tvF X.K W f)) (hb : PE X b (tv X.K false W f')) :
    PS X s (ts X.K fr W fun ρ st => (f ρ st).then ρ fun x st => (match lstOf x with
      | some xs => (f' ρ st).then ρ fun y st => if i = j then .bad else .nx ((ρ.set i (.own (.lst xs))).set j (.val y)) st
      | none => .bad)) := by
  have key : ∀ {D : Ends} {σ : St} {g : Gh} {ω : Wd} {ρ : En} {st : Cel} {H H1 H2 : Hp} {ω1 ω2 : Wd} {st1 st2 : Cel} {xs : List PV} {u : PV} {x y : V}, Rel X.K g ω ρ st σ H → Rel X.K g ω1 ρ st1 σ H1 → FreshP X.K H ω1 H1 x (.lst xs) → ExtE ω1 H1 ω2 H2 → Rel X.K g ω2 ρ st2 σ H2 → RepM X.K false ω2 H2 y u →
      postS X.K fr g ω2 H2 W (if i = j then .bad else .nx ((ρ.set i (.own (.lst xs))).set j (.val u)) st2) D → D.nx ((σ.set i (some x)).set j (some y)) H2 ∧ ∀ p, H2 p = none → D.nx ((σ.set i (some x)).set j (some y)) (upd H2 p (.tup [x, y])) := by
    intro D σ g ω ρ st H H1 H2 ω1 ω2 st1 st2 xs u x y rel rel1 p x2 rel2 p2 q2
    obtain ⟨p0, vs, us, rfl, e0, h1, h2, h3, h4, h5⟩ := p
    cases e0
    obtain ⟨l1, l2, l3, l4⟩ := own_keep x2 rel1.cells h2 h3 h4 h5
    by_cases hij : i = j
    · rw [if_pos hij] at q2; exact q2.elim
    · rw [if_neg hij] at q2
      refine postNx2 q2 ?_
      exact (rel2.setOwn i l1 l2 l3 (rel.none0 h1) l4 fun k w hk => fresh_notOwn rel h1 k w hk).set j p2.rep
  rcases hps with hps | hps
  · refine wPS (hps _ _ ha hb) fun D σ H ⟨g, ω, ρ, st, rel, q⟩ => ?_
    refine (thenF (f := f) rel q).mono fun x H1 ⟨ω1, st1, t, x1, rel1, p, q⟩ => ?_
    obtain ⟨p0, vs, us, rfl, rfl, hh⟩ := p
    refine (thenG (P := RepM X.K false) (f := f') rel1 q).mono fun y H2 ⟨ω2, st2, u, x2, rel2, p2, q2⟩ => ?_
    exact ⟨.ref p0, y, rfl, (key rel rel1 ⟨p0, vs, us, rfl, rfl, hh⟩ x2 rel2 p2 q2).1⟩
  · refine wPS (hps _ _ ha hb) fun D σ H ⟨g, ω, ρ, st, rel, q⟩ => ?_
    refine (thenF (f := f) rel q).mono fun x H1 ⟨ω1, st1, t, x1, rel1, p, q⟩ => ?_
    obtain ⟨p0, vs, us, rfl, rfl, hh⟩ := p
    refine (thenG (P := RepM X.K false) (f := f') rel1 q).mono fun y H2 ⟨ω2, st2, u, x2, rel2, p2, q2⟩ => ?_
    exact p2_end (key rel rel1 ⟨p0, vs, us, rfl, rfl, hh⟩ x2 rel2 p2 q2).2
end
end Ev
namespace Ev
open PySem L2
/-! ### views of statements -/
def asAsg : Stmt → Option (Expr × Expr × Pos)
  | .Assign [t] v p => some (t, v, p)
  | _ => none
def asExp : Stmt → Option (Expr × Pos)
  | .Expr v p => some (v, p)
  | _ => none
def asIfS : Stmt → Option (Expr × List Stmt × List Stmt)
  | .If c a b _ => some (c, a, b)
  | _ => none
def asForS : Stmt → Option (Expr × Expr × List Stmt)
  | .For t i b [] _ => some (t, i, b)
  | _ => none
def asWhl : Stmt → Option (Expr × List Stmt)
  | .While c b [] _ => some (c, b)
  | _ => none
def asRet : Stmt → Option Expr
  | .Return (some v) _ => some v
  | _ => none
def kindS : Stmt → Nat
  | .Pass _ => 1
  | .Break _ => 2
  | .Continue _ => 3
  | .Return none _ => 4
  | _ => 0
section
variable {s : Stmt}
theorem asAsg_eq {t v : Expr} {p : Pos} (h : asAsg s = some (t, v, p)) : s = .Assign [t] v p := by
  unfold asAsg at h
  split at h
  · cases h; rfl
  · cases h
theorem asExp_eq {v : Expr} {p : Pos} (h : asExp s = some (v, p)) : s = .Expr v p := by
  unfold asExp at h
  split at h
  · cases h; rfl
  · cases h
theorem asIfS_eq {c : Expr} {a b : List Stmt} (h : asIfS s = some (c, a, b)) : ∃ p, s = .If c a b p := by
  unfold asIfS at h
  split at h
  · cases h; exact ⟨_, rfl⟩
  · cases h
theorem asForS_eq {t i : Expr} {b : List Stmt} (h : asForS s = some (t, i, b)) : ∃ p, s = .For t i b [] p := by
  unfold asForS at h
  split at h
  · cases h; exact ⟨_, rfl⟩
  · cases h
theorem asWhl_eq {c : Expr} {b : List Stmt} (h : asWhl s = some (c, b)) : ∃ p, s = .While c b [] p := by
  unfold asWhl at h
  split at h
  · cases h; exact ⟨_, rfl⟩
  · cases h
theorem asRet_eq {v : Expr} (h : asRet s = some v) : ∃ p, s = .Return (some v) p := by
  unfold asRet at h
  split at h
  · cases h; exact ⟨_, rfl⟩
  · cases h
theorem kindS_1 (h : kindS s = 1) : ∃ p, s = .Pass p := by
  unfold kindS at h
  split at h <;> first | exact ⟨_, rfl⟩ | cases h
theorem kindS_2 (h : kindS s = 2) : ∃ p, s = .Break p := by
  unfold kindS at h
  split at h <;> first | exact ⟨_, rfl⟩ | cases h
theorem kindS_3 (h : kindS s = 3) : ∃ p, s = .Continue p := by
  unfold kindS at h
  split at h <;> first | exact ⟨_, rfl⟩ | cases h
theorem kindS_4 (h : kindS s = 4) : ∃ p, s = .Return none p := by
  unfold kindS at h
  split at h <;> first | exact ⟨_, rfl⟩ | cases h
end
/-- x.name() and x.name(a, b), on one line -/
def asMeth0 : Expr → Option (Expr × Str)
  | .Call (.Attribute o n ap) [] [] cp => if ap.endLine == cp.line then some (o, n) else none
  | _ => none
def asMeth2 : Expr → Option (Expr × Str × Expr × Expr)
  | .Call (.Attribute o n ap) [x, y] [] cp => if ap.endLine == cp.line then some (o, n, x, y) else none
  | _ => none
theorem asMeth0_eq {e o : Expr} {n : Str} (h : asMeth0 e = some (o, n)) : ∃ ap cp, e = .Call (.Attribute o n ap) [] [] cp ∧ (ap.endLine == cp.line) = true := by
  unfold asMeth0 at h
  split at h
  · split at h
    · rename_i hz; cases h; exact ⟨_, _, rfl, hz⟩
    · cases h
  · cases h
theorem asMeth2_eq {e o x y : Expr} {n : Str} (h : asMeth2 e = some (o, n, x, y)) : ∃ ap cp, e = .Call (.Attribute o n ap) [x, y] [] cp ∧ (ap.endLine == cp.line) = true := by
  unfold asMeth2 at h
  split at h
  · split at h
    · rename_i hz; cases h; exact ⟨_, _, rfl, hz⟩
    · cases h
  · cases h
/-! ### what an assignment asks -/
def compScope : Expr → Option Scope
  | .ListComp _ _ s _ => some s
  | .SetComp _ _ s _ => some s
  | .DictComp _ _ _ s _ => some s
  | _ => none
/-- name = [..]: the name is stored within the comprehension's frame -/
def swCond (sc : Scope) (t v : Expr) : Bool := match compScope v, t with
  | some s, .Name x p => sc.kind == .function && sc.names.lookup x == some .local && p.line == v.pos.line && !(s.names.any fun (n, k) => n == x && (k == .local || k == .cell))
  | _, _ => false
def isFnS (sc : Scope) : Bool := decide (sc.kind = .function)
theorem blockKind_of {env : Env} (h : isFnS env.scope = true) : env.blockKind = .function := by
  unfold isFnS at h
  rw [decide_eq_true_eq] at h
  unfold Env.blockKind
  rw [h]
  rfl
theorem sw_eq {t v : Expr} {l : Nat} {env : Env} (h : isFnS env.scope = true) : swapsWithSole [t] v l env = pure (swCond env.scope t v) := by
  have hb := blockKind_of h
  have hk : (env.scope.kind == ScopeKind.function) = true := by
    unfold isFnS at h
    rw [decide_eq_true_eq] at h
    rw [h]; rfl
  unfold swapsWithSole swapsWith swCond
  cases v <;> first
    | rfl
    | (cases t <;> first
        | rfl
        | (simp only [compScope, hb, hk, Bool.true_and]; rfl))
/-- the targets' names of a, b = x, y, where the stores are swapped -/
def swNames (sc : Scope) (ts vs : List Expr) : Option (List Str) :=
  if (!(ts.length == 2 || ts.length == 3) || vs.length != ts.length || sc.kind != .function) = true then none
  else if (vs.any fun | .Starred .. => true | _ => false) = true then none
  else
    let line := (ts.head?.map (·.pos.line)).getD 0
    let names := ts.filterMap fun
      | .Name id pos => if sc.names.lookup id == some .local && pos.line == line then some id else none
      | _ => none
    if (names.length != ts.length || names.eraseDups.length != names.length) = true then none
    else if (vs.all (foldedForSure 8)) = true then none
    else some names
def swOk (vs : List Expr) : Bool := vs.all (foldedForSure 8) || !vs.all (constantsAlone 8)
theorem sws_eq {ts vs : List Expr} {k k2 : Nat} {p p2 : Pos} {env : Env} (h : isFnS env.scope = true) (hv : swOk vs = true) : swappedStores [.Tuple ts k p] (.Tuple vs k2 p2) env = pure (swNames env.scope ts vs) := by
  have hb := blockKind_of h
  have hk : env.scope.kind = .function := by unfold isFnS at h; rw [decide_eq_true_eq] at h; exact h
  unfold swappedStores swNames
  simp only [hb, hk]
  split
  · rfl
  · split
    · rename_i h2
      exact congrArg pure (if_pos h2).symm
    · rename_i h2
      refine Eq.trans ?_ (congrArg pure (if_neg h2).symm)
      split
      · rename_i h3
        exact congrArg pure (if_pos h3).symm
      · rename_i h3
        refine Eq.trans ?_ (congrArg pure (if_neg h3).symm)
        split
        · rfl
        · rename_i h4
          have h5 : vs.all (constantsAlone 8) = false := by
            unfold swOk at hv
            rw [Bool.or_eq_true] at hv
            rcases hv with hv | hv
            · exact absurd hv h4
            · simpa using hv
          rw [h5]
          rfl
theorem sws_none {t v : Expr} {env : Env} (h : asTup t = none ∨ asTup v = none) (ht : asLst t = none) : swappedStores [t] v env = pure none := by
  unfold swappedStores
  cases t <;> first
    | rfl
    | (simp [asLst] at ht; done)
    | (rcases h with h | h
       · simp [asTup] at h
       · cases v <;> first | rfl | (simp [asTup] at h; done))
/-- how an assignment goes: none; the comprehension's way; or it isn't told -/
inductive AsW where
  | plain | lc | no
def asgWay (sc : Scope) (t v : Expr) : AsW :=
  if !isFnS sc || (asLst t).isSome then .no
  else if swCond sc t v then .lc
  else match asTup t, asTup v with
    | some ts, some vs => if swOk vs && (swNames sc ts vs).isNone then .plain else .no
    | _, _ => .plain
end Ev
namespace Ev
open PySem L2
def isNew : C → Bool
  | .lst _ => true
  | .listOf _ => true
  | .comp .. => true
  | .comp2 .. => true
  | .rev _ => true
  | .cat .. => true
  | _ => false
def asgLc : AsW → Bool
  | .lc => true
  | _ => false
def asgPl : AsW → Bool
  | .plain => true
  | _ => false
section
variable (S : Sx)
/-- a new list: made here, or handed back by a def that makes one -/
def chkN (sc : Scope) (fn : Str → Bool) (c : C) (e : Expr) : Bool := match c with
  | .call f es => (match asCall e with
    | some (x, xs) => S.fr f && decide (x = S.nm f) && S.kn f && glB sc x && chkA S sc fn es xs && starOk xs
    | none => false)
  | c => isNew c && chkE S sc fn (.v false) c e
/-- all names, local, in one line -/
def chkPar (N : List Str) (sc : Scope) : List Nat → List Expr → Bool
  | [], [] => true
  | i :: is, e :: es => (match asName e with
    | some x => decide (N[i]? = some x) && decide (sc.names.lookup x = some .local)
    | none => false) && chkPar N sc is es
  | _, _ => false
/-- names, then a starred one -/
def chkUs (N : List Str) (sc : Scope) (fn : Str → Bool) : List Nat → Nat → List Expr → Bool
  | [], j, [e] => (match asStar e with
    | some x => chkTg1 N sc fn j x
    | none => false)
  | i :: is, j, e :: es => chkTg1 N sc fn i e && chkUs N sc fn is j es
  | _, _, _ => false
/-- how a pair is stored -/
def chkPr (N : List Str) (sc : Scope) (fn : Str → Bool) (i j : Nat) (t v : Expr) : Bool := (chkTg N sc fn [i, j] t && asgPl (asgWay sc t v)) || (match asTup t, asTup v with
  | some ts, some vs => isFnS sc && swOk vs && chkPar N sc [i, j] ts && decide (swNames sc ts vs = some (ts.filterMap asName))
  | _, _ => false)
mutual
def chkS (fr : Bool) (sc : Scope) (fn : Str → Bool) : Ev.S → Stmt → Bool
  | .asg tg e, s => match asAsg s with
    | some (t, v, _) => chkTg S.N sc fn tg t && chkE S sc fn (.v false) e v && (asgPl (asgWay sc t v) || (asgLc (asgWay sc t v) && isNew e && ((asLc v).isSome || (asLc2 v).isSome) && decide (tg.length = 1)))
    | none => false
  | .par is es, s => match asAsg s with
    | some (t, v, _) => (match asTup t, asTup v with
      | some ts, some vs => isFnS sc && swOk vs && decide (is.Nodup) && chkPar S.N sc is ts && chkA S sc fn es vs && decide (swNames sc ts vs = some (ts.filterMap asName)) && decide (is.length = 2 ∨ is.length = 3) && decide (vs.length = is.length) && noStars vs
      | _, _ => false)
    | none => false
  | .asgO i e, s => match asAsg s with
    | some (t, v, _) => chkTg1 S.N sc fn i t && chkN S sc fn e v && (asgPl (asgWay sc t v) || (asgLc (asgWay sc t v) && isNew e && ((asLc v).isSome || (asLc2 v).isSome)))
    | none => false
  | .asgC i e, s => match asAsg s with
    | some (t, v, _) => chkTg1 S.N sc fn i t && chkN S sc fn e v && asgPl (asgWay sc t v)
    | none => false
  | .setI a i e, s => match asAsg s with
    | some (t, v, _) => (match asSub t with
      | some (o, j) => (asSlice j).isNone && chkE S sc fn (.v false) e v && chkE S sc fn (.v false) a o && chkE S sc fn (.v false) i j && asgPl (asgWay sc t v)
      | none => false)
    | none => false
  | .app i e, s => match asExp s with
    | some (v, _) => (match asMeth v with
      | some (o, n, x) => decide (n = ("append" : Str)) && isNm S.N sc i o && (asStar x).isNone && chkE S sc fn (.v false) e x
      | none => false)
    | none => false
  | .ext i e, s => match asExp s with
    | some (v, _) => (match asMeth v with
      | some (o, n, x) => decide (n = ("extend" : Str)) && isNm S.N sc i o && (asStar x).isNone && chkE S sc fn (.v false) e x
      | none => false)
    | none => false
  | .if_ t a b, s => match asIfS s with
    | some (c, x, y) => chkT S sc fn t c && chkSs fr sc fn a x && chkSs fr sc fn b y
    | none => false
  | .for_ tg it b, s => match asForS s with
    | some (t, i, x) => chkTg S.N sc fn tg t && chkE S sc fn (.i false (asTup t).isSome) it i && !isSet i && chkSs fr sc fn b x
    | none => false
  | .while_ t b, s => match asWhl s with
    | some (c, x) => chkT S sc fn t c && chkSs fr sc fn b x
    | none => false
  | .ret e, s => match asRet s with
    | some v => if fr then chkN S sc fn e v else chkE S sc fn (.v false) e v
    | none => false
  | .expr e, s => match asExp s with
    | some (v, _) => chkE S sc fn (.v true) e v && (compScope v).isNone
    | none => false
  | .pass, s => decide (kindS s = 1)
  | .brk, s => decide (kindS s = 2)
  | .cnt, s => decide (kindS s = 3)
  | .frz _, _ => false
  | .ustar is j e, s => match asAsg s with
    | some (t, v, _) => (match asTup t with
      | some es => chkUs S.N sc fn is j es && chkE S sc fn (.v false) e v && asgPl (asgWay sc t v)
      | none => false)
    | none => false
  | .popA tg i, s => match asAsg s with
    | some (t, v, _) => (match asMeth0 v with
      | some (o, n) => decide (n = ("pop" : Str)) && isNm S.N sc i o && chkTg S.N sc fn tg t && asgPl (asgWay sc t v)
      | none => false)
    | none => false
  | .popK i k, s => match asExp s with
    | some (v, _) => (match asMeth v with
      | some (o, n, x) => decide (n = ("pop" : Str)) && isNm S.N sc i o && (asStar x).isNone && chkE S sc fn (.v false) k x
      | none => false)
    | none => false
  | .insO i a e, s => match asExp s with
    | some (v, _) => (match asMeth2 v with
      | some (o, n, x, y) => decide (n = ("insert" : Str)) && isNm S.N sc i o && (asStar x).isNone && (asStar y).isNone && chkE S sc fn (.v false) a x && chkE S sc fn (.v false) e y
      | none => false)
    | none => false
  | .setO i a e, s => match asAsg s with
    | some (t, v, _) => (match asSub t with
      | some (o, j) => (asSlice j).isNone && isNm S.N sc i o && chkE S sc fn (.v false) e v && chkE S sc fn (.v false) a j && asgPl (asgWay sc t v)
      | none => false)
    | none => false
  | .never, _ => true
  | .parOV i j a b, s => match asAsg s with
    | some (t, v, _) => (match asTup t, asTup v with
      | some _, some [x, y] => chkN S sc fn a x && chkE S sc fn (.v false) b y && noStars [x, y] && decide (i ≠ j) && chkPr S.N sc fn i j t v
      | _, _ => false)
    | none => false
  | .parVO i j a b, s => match asAsg s with
    | some (t, v, _) => (match asTup t, asTup v with
      | some _, some [x, y] => chkE S sc fn (.v false) a x && chkN S sc fn b y && noStars [x, y] && decide (i ≠ j) && chkPr S.N sc fn i j t v
      | _, _ => false)
    | none => false
def chkSs (fr : Bool) (sc : Scope) (fn : Str → Bool) : Ss → List Stmt → Bool
  | .nil, [] => true
  | .cons (.frz _) r, ss => chkSs fr sc fn r ss
  | .cons c r, s :: ss => chkS fr sc fn c s && chkSs fr sc fn r ss
  | _, _ => false
end
end
section
variable {p : Pr} {k : Nat} {S : Sx} {Φ : Nat → List PV → Cel → R PV} {sc : Scope} {fn : Str → Bool} {X : Cx} {W : Wx}
theorem soundNN (L : Lib p k S Φ) (G : Good p k S.N sc fn X) {c : C} {e : Expr} (h : chkN S sc fn c e = true) : PE X e (tvF X.K W (ev Φ c)) := by
  have other : isNew c = true → chkE S sc fn (.v false) c e = true → PE X e (tvF X.K W (ev Φ c)) := fun h1 h2 => soundN L G h2 (by cases c <;> first | rfl | cases h1)
  cases c with
  | call f es =>
    have h' : (match asCall e with
      | some (x, xs) => S.fr f && decide (x = S.nm f) && S.kn f && glB sc x && chkA S sc fn es xs && starOk xs
      | none => false) = true := h
    cases q : asCall e with
    | none => rw [q] at h'; cases h'
    | some u =>
      obtain ⟨x, xs⟩ := u
      rw [q] at h'
      simp only [Bool.and_eq_true, decide_eq_true_eq] at h'
      obtain ⟨⟨⟨⟨⟨h0, h1⟩, h2⟩, h3⟩, h4⟩, h5⟩ := h'
      exact (G.call L q h1 h2 h3 h5 (fun z => by subst z; cases es <;> first | rfl | exact Bool.noConfusion (show false = true from h4)) (soundA L es G h4)).2 h0
  | _ =>
    first
    | (unfold chkN at h
       rw [Bool.and_eq_true] at h
       exact other h.1 h.2)
theorem chkN_E {c : C} {e : Expr} (hn : isNew c = true) (h : chkN S sc fn c e = true) : chkE S sc fn (.v false) c e = true := by
  cases c <;> first
    | (cases hn; done)
    | (unfold chkN at h; rw [Bool.and_eq_true] at h; exact h.2)
theorem Good.pl (G : Good p k S.N sc fn X) {t v : Expr} {pos : Pos} (hw : asgPl (asgWay sc t v) = true) : swapsWithSole [t] v pos.line X.env = pure false ∧ swappedStores [t] v X.env = pure none := by
  unfold asgWay at hw
  split at hw
  · cases hw
  · rename_i h1
    simp only [Bool.or_eq_true, Bool.not_eq_true', not_or, Bool.not_eq_false, Option.isSome_eq_false_iff, Bool.not_eq_true] at h1
    have hf : isFnS X.env.scope = true := by rw [G.sc]; exact h1.1
    split at hw
    · cases hw
    · rename_i h2
      refine ⟨by rw [sw_eq hf, G.sc]; simp only [Bool.not_eq_true] at h2; rw [h2], ?_⟩
      have hl : asLst t = none := by simpa using h1.2
      split at hw
      · rename_i ts vs q1 q2
        obtain ⟨_, _, rfl⟩ := asTup_eq q1
        obtain ⟨_, _, rfl⟩ := asTup_eq q2
        split at hw
        · rename_i h3
          rw [Bool.and_eq_true, Option.isNone_iff_eq_none] at h3
          rw [sws_eq hf h3.1, G.sc, h3.2]
        · cases hw
      · rename_i q
        refine sws_none ?_ hl
        cases q1 : asTup t with
        | none => exact .inl rfl
        | some ts =>
          cases q2 : asTup v with
          | none => exact .inr rfl
          | some vs => exact absurd q2 (q ts vs q1)
theorem tgE_plain {tg : List Nat} {t : Expr} {env : Env} (h : chkTg S.N sc fn tg t = true) : asStar t = none := by
  unfold chkTg at h
  split at h
  · exact tg1_star h
  · cases q : asTup t with
    | none => rw [q] at h; cases h
    | some es => obtain ⟨_, _, rfl⟩ := asTup_eq q; rfl
theorem ae1 {t : Expr} {env : Env} (h : asStar t = none) : (assignEach [t] env).map (·.2) = [assign t env] := by
  rw [assignEach_plain h]; rfl
/-- name = [..] -/
theorem Good.lc (L : Lib p k S Φ) (G : Good p k S.N sc fn X) {i : Nat} {t v : Expr} {pos : Pos} {c : C} {m : Md} (hl : asgLc (asgWay sc t v) = true) (hn : isNew c = true) (hv : (asLc v).isSome = true) (ht : chkTg1 S.N sc fn i t = true) (hc : chkE S sc fn m c v = true) :
    ∃ T : TE, PS X (.Assign [t] v pos) (tAsg T (gName i)) ∧ ∀ σ H Q, tvF X.K W (ev Φ c) σ H Q → T σ H Q := by
  obtain ⟨⟨x, tg, it, fs, s⟩, q⟩ := Option.isSome_iff_exists.mp hv
  obtain ⟨pp, rfl⟩ := asLc_eq q
  unfold asgWay at hl
  split at hl
  · cases hl
  · rename_i h1
    simp only [Bool.or_eq_true, Bool.not_eq_true', not_or, Bool.not_eq_false, Bool.not_eq_true] at h1
    have hf : isFnS X.env.scope = true := by rw [G.sc]; exact h1.1
    split at hl
    · rename_i h2
      cases c with
      | comp elt tgs itc ifs own =>
        unfold chkTg1 at ht
        cases qn : asName t with
        | none => rw [qn] at ht; cases ht
        | some y =>
          rw [qn] at ht
          obtain ⟨yp, rfl⟩ := asName_eq qn
          simp only [Bool.and_eq_true, decide_eq_true_eq] at ht
          have hyl : sc.names.lookup y = some .local := by
            unfold swCond compScope at h2
            simp only [Bool.and_eq_true, beq_iff_eq] at h2
            exact h2.1.1.2
          have hsw : swapsWith (.ListComp x [⟨tg, it, fs, 0⟩] s pp) (some (.Name y yp)) pos.line X.env = pure true := by
            have := sw_eq (t := .Name y yp) (v := .ListComp x [⟨tg, it, fs, 0⟩] s pp) (l := pos.line) hf
            rw [G.sc, h2] at this
            exact this
          rw [chkE, q] at hc
          simp only [Bool.and_eq_true, Bool.not_eq_true'] at hc
          obtain ⟨⟨⟨⟨⟨⟨q1, q2⟩, q3⟩, q4⟩, q5⟩, q6⟩, q7⟩ := hc
          have base := ps_setLc (X := X) (i := i) (y := y) (py := yp) (spos := pos) (elt := x) (tg := tg) (iter := it) (ifs := fs) (scope := s) (pos := pp) (own := own.map fun i => (S.N.getD i "", i)) (wi := ti X.K true W (ev Φ itc)) (g := gAsg X.K tgs) (tt := tvbb X.K W0 (evt Φ ifs)) (te := tv X.K false W0 (ev Φ elt)) G.calm (by rw [G.hN]; exact G.nd)
            (by rw [G.hN]; exact ht.1) (by rw [G.sc]; exact hyl) hsw
            (soundE (m := .i true (asTup tg).isSome) L itc G q4 tg (fun z => by
              cases q2 : asTup tg with
              | none => rw [q2] at z; cases z
              | some es => obtain ⟨kk, p2, rfl⟩ := asTup_eq q2; exact ⟨es, kk, p2, rfl⟩))
            (by rw [G.hN, G.sc]; exact blkOk_by q1)
            (fun s' H' C cl fp => (G.blk s' H' s C cl fp).tg q5)
            (fun s' H' C cl fp => soundF L ifs (G.blk s' H' s C cl fp) q6)
            (fun s' H' C cl fp => soundE (m := .v false) L elt (G.blk s' H' s C cl fp) q7)
            (fsi_of q3)
          rw [sub_own] at base
          exact ⟨_, base, comp_w q2⟩
      | lst es => rw [chkE] at hc; cases hc
      | listOf a => rw [chkE] at hc; cases hc
      | comp2 _ _ _ _ _ _ _ _ => rw [chkE] at hc; cases fs <;> exact Bool.noConfusion (show false = true from hc)
      | rev a => rw [chkE] at hc; cases hc
      | cat a b => rw [chkE] at hc; cases hc
      | _ => cases hn
    · split at hl
      · split at hl <;> cases hl
      · cases hl
theorem filterMap_asName : ∀ {is : List Nat} {es : List Expr} {N : List Str}, chkPar N sc is es = true → es.length = is.length
  | [], [], _, _ => rfl
  | i :: is, e :: es, N, h => by
    unfold chkPar at h
    rw [Bool.and_eq_true] at h
    simp [filterMap_asName h.2]
  | [], _ :: _, _, h => by cases h
  | _ :: _, [], _, h => by cases h
theorem chkPar_cons {i : Nat} {is : List Nat} {e : Expr} {es : List Expr} {N : List Str} (h : chkPar N sc (i :: is) (e :: es) = true) : (∃ x pp, e = .Name x pp ∧ N[i]? = some x ∧ sc.names.lookup x = some .local) ∧ chkPar N sc is es = true := by
  unfold chkPar at h
  rw [Bool.and_eq_true] at h
  refine ⟨?_, h.2⟩
  cases q : asName e with
  | none => rw [q] at h; cases h.1
  | some x =>
    rw [q] at h
    obtain ⟨pp, rfl⟩ := asName_eq q
    simp only [Bool.and_eq_true, decide_eq_true_eq] at h
    exact ⟨x, pp, rfl, h.1.1, h.1.2⟩
theorem Good.par (G : Good p k S.N sc fn X) {is : List Nat} {ts vs : List Expr} {kt kv : Nat} {pt pv pos : Pos} {f : En → Cel → R (List PV)} (hf : isFnS sc = true) (ho : swOk vs = true) (nd : is.Nodup) (hp : chkPar S.N sc is ts = true) (hsw : swNames sc ts vs = some (ts.filterMap asName)) (hl : is.length = 2 ∨ is.length = 3) (hv : vs.length = is.length) (ha : PA X vs (tvs X.K W f)) :
    PS X (.Assign [.Tuple ts kt pt] (.Tuple vs kv pv) pos) (fun D σ H => tvs X.K W f σ H fun ws H1 => ws.length = is.length ∧ D.nx (setS σ is ws) H1) := by
  have hf' : isFnS X.env.scope = true := by rw [G.sc]; exact hf
  have hw : swappedStores [.Tuple ts kt pt] (.Tuple vs kv pv) X.env = pure (some (ts.filterMap asName)) := by rw [sws_eq hf' ho, G.sc, hsw]
  have tl := filterMap_asName hp
  rcases hl with hl | hl
  · match is, ts, vs, hl, tl, hv with
    | [i, j], [a, b], [x, y], _, _, _ =>
      obtain ⟨⟨n1, p1, rfl, a1, b1⟩, hp2⟩ := chkPar_cons hp
      obtain ⟨⟨n2, p2, rfl, a2, b2⟩, _⟩ := chkPar_cons hp2
      refine wPS (ps_par G.calm (by rw [G.hN]; exact G.nd) (by rw [G.hN]; exact a1) (by rw [G.hN]; exact a2) (by simpa using nd) (by rw [G.sc]; exact b1) (by rw [G.sc]; exact b2) ha hw) fun D σ H h => ?_
      refine h.mono fun ws H1 ⟨hl, q⟩ => ?_
      match ws, hl, q with
      | [v, w], _, q => exact ⟨v, w, rfl, q⟩
  · match is, ts, vs, hl, tl, hv with
    | [i, j, l], [a, b, c], [x, y, z], _, _, _ =>
      obtain ⟨⟨n1, p1, rfl, a1, b1⟩, hp2⟩ := chkPar_cons hp
      obtain ⟨⟨n2, p2, rfl, a2, b2⟩, hp3⟩ := chkPar_cons hp2
      obtain ⟨⟨n3, p3, rfl, a3, b3⟩, _⟩ := chkPar_cons hp3
      simp only [List.nodup_cons, List.mem_cons, List.not_mem_nil, or_false, not_or] at nd
      refine wPS (ps_par3 G.calm (by rw [G.hN]; exact G.nd) (by rw [G.hN]; exact a1) (by rw [G.hN]; exact a2) (by rw [G.hN]; exact a3) nd.1.1 nd.1.2 nd.2.1 (by rw [G.sc]; exact b1) (by rw [G.sc]; exact b2) (by rw [G.sc]; exact b3) ha hw) fun D σ H h => ?_
      refine h.mono fun ws H1 ⟨hl, q⟩ => ?_
      match ws, hl, q with
      | [u, v, w], _, q => exact ⟨u, v, w, rfl, q⟩
theorem Good.lc2 (L : Lib p k S Φ) (G : Good p k S.N sc fn X) {i : Nat} {t v : Expr} {pos : Pos} {c : C} {m : Md} (hl : asgLc (asgWay sc t v) = true) (hn : isNew c = true) (hv : (asLc2 v).isSome = true) (ht : chkTg1 S.N sc fn i t = true) (hc : chkE S sc fn m c v = true) :
    ∃ T : TE, PS X (.Assign [t] v pos) (tAsg T (gName i)) ∧ ∀ σ H Q, tvF X.K W (ev Φ c) σ H Q → T σ H Q := by
  obtain ⟨⟨x, ⟨tg, it⟩, ⟨tg2, it2, fs⟩, s⟩, q⟩ := Option.isSome_iff_exists.mp hv
  obtain ⟨pp, rfl⟩ := asLc2_eq q
  unfold asgWay at hl
  split at hl
  · cases hl
  · rename_i h1
    simp only [Bool.or_eq_true, Bool.not_eq_true', not_or, Bool.not_eq_false, Bool.not_eq_true] at h1
    have hf : isFnS X.env.scope = true := by rw [G.sc]; exact h1.1
    split at hl
    · rename_i h2
      cases c with
      | comp2 elt tgs itc tgs2 itc2 ifs own own2 =>
        unfold chkTg1 at ht
        cases qn : asName t with
        | none => rw [qn] at ht; cases ht
        | some y =>
          rw [qn] at ht
          obtain ⟨yp, rfl⟩ := asName_eq qn
          simp only [Bool.and_eq_true, decide_eq_true_eq] at ht
          have hyl : sc.names.lookup y = some .local := by
            unfold swCond compScope at h2
            simp only [Bool.and_eq_true, beq_iff_eq] at h2
            exact h2.1.1.2
          have hsw : swapsWith (.ListComp x [⟨tg, it, [], 0⟩, ⟨tg2, it2, fs, 0⟩] s pp) (some (.Name y yp)) pos.line X.env = pure true := by
            have := sw_eq (t := .Name y yp) (v := .ListComp x [⟨tg, it, [], 0⟩, ⟨tg2, it2, fs, 0⟩] s pp) (l := pos.line) hf
            rw [G.sc, h2] at this
            exact this
          rw [chkE, q] at hc
          simp only [Bool.and_eq_true, Bool.not_eq_true'] at hc
          obtain ⟨⟨⟨⟨⟨⟨⟨⟨⟨⟨⟨⟨q1, qn'⟩, q2⟩, q2b⟩, q2c⟩, q3⟩, q3b⟩, q4⟩, q5⟩, q4b⟩, q5b⟩, q6⟩, q7⟩ := hc
          have tup : ∀ {t : Expr}, (asTup t).isSome = true → ∃ es kk p2, t = Expr.Tuple es kk p2 := fun {t} z => by
            cases q2 : asTup t with
            | none => rw [q2] at z; cases z
            | some es => obtain ⟨kk, p2, rfl⟩ := asTup_eq q2; exact ⟨es, kk, p2, rfl⟩
          have base := ps_setLc2 (X := X) (i := i) (y := y) (py := yp) (spos := pos) (elt := x) (tg := tg) (iter := it) (ifs := []) (tg1 := tg2) (iter1 := it2) (ifs1 := fs) (scope := s) (pos := pp) (own := own.map fun i => (S.N.getD i "", i)) (vs1 := own2) (wi := ti X.K true W (ev Φ itc)) (g := gAsg X.K tgs) (tt := tYes) (wi1 := ti X.K false W0 (ev Φ itc2)) (g1 := gAsg X.K tgs2) (tt1 := tvbb X.K W0 (evt Φ ifs)) (te := tv X.K false W0 (ev Φ elt)) G.calm (by rw [G.hN]; exact G.nd)
            (by rw [G.hN]; exact ht.1) (by rw [G.sc]; exact hyl) hsw
            (soundE (m := .i true (asTup tg).isSome) L itc G q4 tg tup)
            (by rw [G.hN, G.sc]; exact blkOk_by q1)
            (fun j hj => by rw [sub_own]; simpa using List.all_eq_true.mp q2c j hj)
            (fun s' H' C cl fp => (G.blk s' H' s C cl fp).tg q5)
            (fun s' H' C cl fp => pts_nil)
            (fun s' H' C cl fp => soundE (m := .i false (asTup tg2).isSome) L itc2 (G.blk s' H' s C cl fp) q4b tg2 tup)
            (fun s' H' C cl fp => (G.blk s' H' s C cl fp).tg q5b)
            (fun s' H' C cl fp => soundF L ifs (G.blk s' H' s C cl fp) q6)
            (fun s' H' C cl fp => soundE (m := .v false) L elt (G.blk s' H' s C cl fp) q7)
            (fsi_of q3) (fun env => fsi_of q3b)
          rw [sub_own] at base
          exact ⟨_, base, comp2_w qn' q2 q2b⟩
      | lst es => rw [chkE] at hc; cases hc
      | listOf a => rw [chkE] at hc; cases hc
      | comp _ _ _ _ _ => rw [chkE] at hc; exact Bool.noConfusion (show false = true from hc)
      | rev a => rw [chkE] at hc; cases hc
      | cat a b => rw [chkE] at hc; cases hc
      | _ => cases hn
    · split at hl
      · split at hl <;> cases hl
      · cases hl
theorem Good.lcB (L : Lib p k S Φ) (G : Good p k S.N sc fn X) {i : Nat} {t v : Expr} {pos : Pos} {c : C} {m : Md} (hl : asgLc (asgWay sc t v) = true) (hn : isNew c = true) (hv : ((asLc v).isSome || (asLc2 v).isSome) = true) (ht : chkTg1 S.N sc fn i t = true) (hc : chkE S sc fn m c v = true) :
    ∃ T : TE, PS X (.Assign [t] v pos) (tAsg T (gName i)) ∧ ∀ σ H Q, tvF X.K W (ev Φ c) σ H Q → T σ H Q := by
  rw [Bool.or_eq_true] at hv
  exact hv.elim (fun z => G.lc L hl hn z ht hc) (fun z => G.lc2 L hl hn z ht hc)
/-- two names, two values -/
theorem Good.pair (G : Good p k S.N sc fn X) {i j : Nat} {ts : List Expr} {x y : Expr} {kt kv : Nat} {pt pv pos : Pos} (hn : noStars [x, y] = true) (nd : i ≠ j) (hpr : chkPr S.N sc fn i j (.Tuple ts kt pt) (.Tuple [x, y] kv pv) = true) :
    PrS X (.Assign [.Tuple ts kt pt] (.Tuple [x, y] kv pv) pos) i j x y := by
  simp only [noStars, List.all_cons, List.all_nil, Bool.and_true, Bool.and_eq_true, Option.isNone_iff_eq_none] at hn
  have pa : ∀ {ta tb : TE}, PE X x ta → PE X y tb → PA X [x, y] (tCons ta (tCons tb tNil)) := fun ha hb => pa_cons ha (pa_cons hb pa_nil (starEach_plain hn.2)) (starEach_plain hn.1)
  unfold chkPr at hpr
  rw [Bool.or_eq_true] at hpr
  rcases hpr with hpr | hpr
  · rw [Bool.and_eq_true] at hpr
    obtain ⟨w1, w2⟩ := G.pl (pos := pos) hpr.2
    exact .inr fun ta tb ha hb => ps_asg (pe_tup (pa ha hb)) (G.tg hpr.1) w1 w2 (ae1 rfl)
  · simp only [asTup, Bool.and_eq_true, decide_eq_true_eq] at hpr
    obtain ⟨⟨⟨hf, ho⟩, hp⟩, hsw⟩ := hpr
    have hf' : isFnS X.env.scope = true := by rw [G.sc]; exact hf
    have hw : swappedStores [.Tuple ts kt pt] (.Tuple [x, y] kv pv) X.env = pure (some (ts.filterMap asName)) := by rw [sws_eq hf' ho, G.sc, hsw]
    have tl := filterMap_asName hp
    match ts, tl with
    | [a, b], _ =>
      obtain ⟨⟨n1, p1, rfl, a1, b1⟩, hp2⟩ := chkPar_cons hp
      obtain ⟨⟨n2, p2, rfl, a2, b2⟩, _⟩ := chkPar_cons hp2
      exact .inl fun ta tb ha hb => ps_par G.calm (by rw [G.hN]; exact G.nd) (by rw [G.hN]; exact a1) (by rw [G.hN]; exact a2) nd (by rw [G.sc]; exact b1) (by rw [G.sc]; exact b2) (pa ha hb) hw
/-- x.append(e), x.extend(e) -/
theorem few_of {x : Expr} {cp : Pos} {env : Env} (h : asStar x = none) : ((backTo cp (starEach [x] env)).all (fun x => !x.1) && (backToKw cp (keywordEach [] env)).all (fun x => x.1.isSome)
      && decide (([x] : List Expr).length + ([] : List Keyword).length + (if ([] : List Keyword).isEmpty then 0 else 1) < 30)) = true := by
  rw [starEach_plain h]; rfl
theorem few_of2 {x y : Expr} {cp : Pos} {env : Env} (h : asStar x = none) (h2 : asStar y = none) : ((backTo cp (starEach [x, y] env)).all (fun x => !x.1) && (backToKw cp (keywordEach [] env)).all (fun x => x.1.isSome)
      && decide (([x, y] : List Expr).length + ([] : List Keyword).length + (if ([] : List Keyword).isEmpty then 0 else 1) < 30)) = true := by
  rw [starEach_plain h, starEach_plain h2]; rfl
theorem sws_expr {v : Expr} {l : Nat} {env : Env} (h : (compScope v).isNone = true) : swapsWith v none l env = pure false := by
  cases v <;> first | rfl | (simp [compScope] at h)
theorem base_of {o : Expr} {n : Str} {env : Env} {i : Nat} {sc : Scope} {N : List Str} (h : isNm N sc i o = true) : attributeBase o n env (eval o env) = eval o env := by
  obtain ⟨x, q, rfl, _⟩ := isNm_of (S := { nm := fun _ => "", fr := fun _ => false, kn := fun _ => false, N := N }) h
  rfl
theorem Good.ust (G : Good p k S.N sc fn X) {j : Nat} : ∀ {is : List Nat} {es : List Expr}, chkUs S.N sc fn is j es = true → PGs X es (gNames (is ++ [j])) ∧ (assignEach es X.env).length = is.length + 1 ∧ (assignEach es X.env).findIdx? (·.1) = some is.length
  | [], [e], h => by
    unfold chkUs at h
    cases q : asStar e with
    | none => rw [q] at h; cases h
    | some x =>
      rw [q] at h
      obtain ⟨pp, rfl⟩ := asStar_eq q
      have h1 : PGs X [x] (gNames [j]) := pgs_cons (G.tg1 h) pgs_nil (by rw [assignEach_plain (tg1_star h)]; rfl)
      refine ⟨⟨fun pins s σ H vs us Q I r w => ?_⟩, rfl, rfl⟩
      have := h1.run pins s σ H vs us Q I r w
      rw [assignEach_plain (tg1_star h)] at this
      exact this
  | i :: is, e :: es, h => by
    unfold chkUs at h
    rw [Bool.and_eq_true] at h
    obtain ⟨h1, h2, h3⟩ := Good.ust G h.2
    have hs := assignEach_plain (es := es) (env := X.env) (tg1_star h.1)
    refine ⟨pgs_cons (G.tg1 h.1) h1 (by rw [hs]; rfl), by rw [hs]; simp [h2], ?_⟩
    rw [hs, List.findIdx?_cons, h3]
    rfl
  | [], [], h => by cases h
  | [], _ :: _ :: _, h => by cases h
  | _ :: _, [], h => by cases h
mutual
theorem soundS (L : Lib p k S Φ) (F : Nat) (fr : Bool) : ∀ (c : Ev.S) {sc : Scope} {fn : Str → Bool} {X : Cx} {s : Stmt} {W : Wx}, Good p k S.N sc fn X → chkS S fr sc fn c s = true → PS X s (ts X.K fr W (evS Φ F c))
  | .asg tg e, sc, fn, X, s, W, G, h => by
    rw [chkS] at h
    cases q : asAsg s with
    | none => rw [q] at h; cases h
    | some u =>
      obtain ⟨t, v, pos⟩ := u
      rw [q] at h
      obtain rfl := asAsg_eq q
      rw [Bool.and_eq_true, Bool.and_eq_true, Bool.or_eq_true] at h
      rcases h.2 with h2 | h2
      · obtain ⟨w1, w2⟩ := G.pl (pos := pos) h2
        exact ss_asg (T := tv X.K false W (ev Φ e)) (ps_asg (soundE (m := .v false) L e G h.1.2) (G.tg h.1.1) w1 w2 (ae1 (tgE_plain (env := X.env) h.1.1))) (fun _ _ _ z => z)
      · rw [Bool.and_eq_true, Bool.and_eq_true, Bool.and_eq_true, decide_eq_true_eq] at h2
        match tg, h, h2 with
        | [i], h, h2 =>
          obtain ⟨T, pT, wT⟩ := G.lcB (W := W) (pos := pos) L h2.1.1.1 h2.1.1.2 h2.1.2 (show chkTg1 S.N sc fn i t = true from h.1.1) h.1.2
          exact ss_asg (tg := [i]) (T := T) pT (fun σ H Q z => wT σ H Q (v_of_F σ H Q z))
  | .par is es, sc, fn, X, s, W, G, h => by
    rw [chkS] at h
    cases q : asAsg s with
    | none => rw [q] at h; cases h
    | some u =>
      obtain ⟨t, v, pos⟩ := u
      rw [q] at h
      obtain rfl := asAsg_eq q
      dsimp only at h
      split at h
      · rename_i ts' vs q1 q2
        obtain ⟨kt, pt, rfl⟩ := asTup_eq q1
        obtain ⟨kv, pv, rfl⟩ := asTup_eq q2
        simp only [Bool.and_eq_true, decide_eq_true_eq] at h
        obtain ⟨⟨⟨⟨⟨⟨⟨⟨h1, h2⟩, h3⟩, h4⟩, h5⟩, h6⟩, h7⟩, h8⟩, h9⟩ := h
        exact ss_par (es := vs) (G.par h1 h2 h3 h4 h6 h7 h8 (soundA L es G h5))
      · cases h
  | .asgO i e, sc, fn, X, s, W, G, h => by
    rw [chkS] at h
    cases q : asAsg s with
    | none => rw [q] at h; cases h
    | some u =>
      obtain ⟨t, v, pos⟩ := u
      rw [q] at h
      obtain rfl := asAsg_eq q
      rw [Bool.and_eq_true, Bool.and_eq_true, Bool.or_eq_true] at h
      rcases h.2 with h2 | h2
      · obtain ⟨w1, w2⟩ := G.pl (pos := pos) h2
        exact ss_asgO (T := tvF X.K W (ev Φ e)) (ps_asg (soundNN L G h.1.2) (G.tg1 h.1.1) w1 w2 (ae1 (tg1_star h.1.1))) (fun _ _ _ z => z)
      · rw [Bool.and_eq_true, Bool.and_eq_true] at h2
        have hc : chkE S sc fn (.v false) e v = true := by
          exact chkN_E h2.1.2 h.1.2
        obtain ⟨T, pT, wT⟩ := G.lcB (W := W) (pos := pos) L h2.1.1 h2.1.2 h2.2 h.1.1 hc
        exact ss_asgO (T := T) pT wT
  | .asgC i e, sc, fn, X, s, W, G, h => by
    rw [chkS] at h
    cases q : asAsg s with
    | none => rw [q] at h; cases h
    | some u =>
      obtain ⟨t, v, pos⟩ := u
      rw [q] at h
      obtain rfl := asAsg_eq q
      rw [Bool.and_eq_true, Bool.and_eq_true] at h
      obtain ⟨w1, w2⟩ := G.pl (pos := pos) h.2
      exact ss_asgC (T := tvF X.K W (ev Φ e)) (ps_asg (soundNN L G h.1.2) (G.tg1 h.1.1) w1 w2 (ae1 (tg1_star h.1.1))) (fun _ _ _ z => z)
  | .setI a i e, sc, fn, X, s, W, G, h => by
    rw [chkS] at h
    cases q : asAsg s with
    | none => rw [q] at h; cases h
    | some u =>
      obtain ⟨t, v, pos⟩ := u
      rw [q] at h
      obtain rfl := asAsg_eq q
      dsimp only at h
      cases q2 : asSub t with
      | none => rw [q2] at h; cases h
      | some u2 =>
        obtain ⟨o, j⟩ := u2
        rw [q2] at h
        obtain ⟨pt, rfl⟩ := asSub_eq q2
        simp only [Bool.and_eq_true, Option.isNone_iff_eq_none] at h
        obtain ⟨⟨⟨⟨h0, h1⟩, h2⟩, h3⟩, h4⟩ := h
        obtain ⟨w1, w2⟩ := G.pl (pos := pos) h4
        refine ss_setI (fun te to ti he ho hi => ps_asg he (pg_sub ho hi set_list ?_) w1 w2 rfl) (soundE (m := .v false) L e G h1) (soundE (m := .v false) L a G h2) (soundE (m := .v false) L i G h3)
        intro v
        cases j <;> first | rfl | (simp [asSlice] at h0)
  | .app i e, sc, fn, X, s, W, G, h => by
    rw [chkS] at h
    cases q : asExp s with
    | none => rw [q] at h; cases h
    | some u =>
      obtain ⟨v, pos⟩ := u
      rw [q] at h
      obtain rfl := asExp_eq q
      dsimp only at h
      cases q2 : asMeth v with
      | none => rw [q2] at h; cases h
      | some u2 =>
        obtain ⟨o, n, x⟩ := u2
        rw [q2] at h
        obtain ⟨ap, cp, rfl, hl⟩ := asMeth_eq q2
        simp only [Bool.and_eq_true, decide_eq_true_eq, Option.isNone_iff_eq_none] at h
        obtain ⟨⟨⟨rfl, h1⟩, h2⟩, h3⟩ := h
        exact ss_app (fun te to he ho => ps_expr (pe_bm PySem.F.plainAttrs_list PySem.F.slot_list_append PySem.F.type_list_append mt_append ho (pa_cons he pa_nil (starEach_plain h2)) (base_of h1) (few_of h2) hl (starEach_plain h2) rfl) rfl) (G.var h1) (soundE (m := .v false) L e G h3)
  | .ext i e, sc, fn, X, s, W, G, h => by
    rw [chkS] at h
    cases q : asExp s with
    | none => rw [q] at h; cases h
    | some u =>
      obtain ⟨v, pos⟩ := u
      rw [q] at h
      obtain rfl := asExp_eq q
      dsimp only at h
      cases q2 : asMeth v with
      | none => rw [q2] at h; cases h
      | some u2 =>
        obtain ⟨o, n, x⟩ := u2
        rw [q2] at h
        obtain ⟨ap, cp, rfl, hl⟩ := asMeth_eq q2
        simp only [Bool.and_eq_true, decide_eq_true_eq, Option.isNone_iff_eq_none] at h
        obtain ⟨⟨⟨rfl, h1⟩, h2⟩, h3⟩ := h
        exact ss_ext (fun te to he ho => ps_expr (pe_bm PySem.F.plainAttrs_list PySem.F.slot_list_extend PySem.F.type_list_extend mt_extend ho (pa_cons he pa_nil (starEach_plain h2)) (base_of h1) (few_of h2) hl (starEach_plain h2) rfl) rfl) (G.var h1) (soundE (m := .v false) L e G h3)
  | .if_ t a b, sc, fn, X, s, W, G, h => by
    rw [chkS] at h
    cases q : asIfS s with
    | none => rw [q] at h; cases h
    | some u =>
      obtain ⟨c, x, y⟩ := u
      rw [q] at h
      obtain ⟨pos, rfl⟩ := asIfS_eq q
      simp only [Bool.and_eq_true] at h
      exact ss_if (fun tt ta tb hc ha hb => ps_if hc ha hb) (soundT L t G h.1.1) (soundSs L F fr a G h.1.2) (soundSs L F fr b G h.2)
  | .for_ tg it b, sc, fn, X, s, W, G, h => by
    rw [chkS] at h
    cases q : asForS s with
    | none => rw [q] at h; cases h
    | some u =>
      obtain ⟨t, i, x⟩ := u
      rw [q] at h
      obtain ⟨pos, rfl⟩ := asForS_eq q
      simp only [Bool.and_eq_true, Bool.not_eq_true'] at h
      exact ss_for (f := evSs Φ F b) (fun wi gt tb hi hg hb => ps_for G.pass G.calm hi hg hb (fsi_of h.1.2)) (soundE (m := .i false (asTup t).isSome) L it G h.1.1.2 t (fun z => by
        cases q2 : asTup t with
        | none => rw [q2] at z; cases z
        | some es => obtain ⟨kk, p2, rfl⟩ := asTup_eq q2; exact ⟨es, kk, p2, rfl⟩)) (G.tg h.1.1.1) (soundSs L F fr b G h.2)
  | .while_ t b, sc, fn, X, s, W, G, h => by
    rw [chkS] at h
    cases q : asWhl s with
    | none => rw [q] at h; cases h
    | some u =>
      obtain ⟨c, x⟩ := u
      rw [q] at h
      obtain ⟨pos, rfl⟩ := asWhl_eq q
      simp only [Bool.and_eq_true] at h
      exact ss_while (fun tt tb hc hb => ps_while G.pass hc hb) (soundT L t G h.1) (soundSs L F fr b G h.2)
  | .ret e, sc, fn, X, s, W, G, h => by
    rw [chkS] at h
    cases q : asRet s with
    | none => rw [q] at h; cases h
    | some v =>
      rw [q] at h
      obtain ⟨pos, rfl⟩ := asRet_eq q
      cases fr with
      | true => exact ss_retF (fun t ht => ps_ret ht) (soundNN L G h)
      | false => exact ss_ret (fun t ht => ps_ret ht) (soundE (m := .v false) L e G h)
  | .expr e, sc, fn, X, s, W, G, h => by
    rw [chkS] at h
    cases q : asExp s with
    | none => rw [q] at h; cases h
    | some u =>
      obtain ⟨v, pos⟩ := u
      rw [q] at h
      obtain rfl := asExp_eq q
      simp only [Bool.and_eq_true] at h
      exact ss_expr (fun t ht => ps_expr ht (sws_expr h.2)) (soundE (m := .v true) L e G h.1)
  | .pass, sc, fn, X, s, W, G, h => by
    rw [chkS, decide_eq_true_eq] at h
    obtain ⟨pos, rfl⟩ := kindS_1 h
    exact ss_pass ps_pass
  | .brk, sc, fn, X, s, W, G, h => by
    rw [chkS, decide_eq_true_eq] at h
    obtain ⟨pos, rfl⟩ := kindS_2 h
    exact ss_brk ps_break
  | .cnt, sc, fn, X, s, W, G, h => by
    rw [chkS, decide_eq_true_eq] at h
    obtain ⟨pos, rfl⟩ := kindS_3 h
    exact ss_cnt ps_continue
  | .frz _, sc, fn, X, s, W, G, h => Bool.noConfusion (show false = true from h)
  | .ustar is j e, sc, fn, X, s, W, G, h => by
    rw [chkS] at h
    cases q : asAsg s with
    | none => rw [q] at h; cases h
    | some u =>
      obtain ⟨t, v, pos⟩ := u
      rw [q] at h
      obtain rfl := asAsg_eq q
      dsimp only at h
      cases q2 : asTup t with
      | none => rw [q2] at h; cases h
      | some es =>
        rw [q2] at h
        dsimp only at h
        rw [Bool.and_eq_true, Bool.and_eq_true] at h
        obtain ⟨w1, w2⟩ := G.pl (pos := pos) h.2
        obtain ⟨kk, pp, rfl⟩ := asTup_eq q2
        obtain ⟨u1, u2, u3⟩ := G.ust h.1.1
        exact ss_ustar (ps_asg (soundE (m := .v false) L e G h.1.2) (pg_star G.calm u1 u2 u3) w1 w2 (ae1 rfl))
  | .popA tg i, sc, fn, X, s, W, G, h => by
    rw [chkS] at h
    cases q : asAsg s with
    | none => rw [q] at h; cases h
    | some u =>
      obtain ⟨t, v, pos⟩ := u
      rw [q] at h
      obtain rfl := asAsg_eq q
      dsimp only at h
      cases q2 : asMeth0 v with
      | none => rw [q2] at h; cases h
      | some u2 =>
        obtain ⟨o, n⟩ := u2
        rw [q2] at h
        obtain ⟨ap, cp, rfl, hl⟩ := asMeth0_eq q2
        simp only [Bool.and_eq_true, decide_eq_true_eq] at h
        obtain ⟨⟨⟨rfl, h1⟩, h2⟩, h3⟩ := h
        obtain ⟨w1, w2⟩ := G.pl (pos := pos) h3
        exact ss_popA (fun to ho => ps_asg (pe_bm0 PySem.F.plainAttrs_list PySem.F.slot_list_pop PySem.F.type_list_pop mt_pop ho (base_of h1) hl) (G.tg h2) w1 w2 (ae1 (tgE_plain (env := X.env) h2))) (G.var h1)
  | .popK i k, sc, fn, X, s, W, G, h => by
    rw [chkS] at h
    cases q : asExp s with
    | none => rw [q] at h; cases h
    | some u =>
      obtain ⟨v, pos⟩ := u
      rw [q] at h
      obtain rfl := asExp_eq q
      dsimp only at h
      cases q2 : asMeth v with
      | none => rw [q2] at h; cases h
      | some u2 =>
        obtain ⟨o, n, x⟩ := u2
        rw [q2] at h
        obtain ⟨ap, cp, rfl, hl⟩ := asMeth_eq q2
        simp only [Bool.and_eq_true, decide_eq_true_eq, Option.isNone_iff_eq_none] at h
        obtain ⟨⟨⟨rfl, h1⟩, h2⟩, h3⟩ := h
        exact ss_popK (fun te to he ho => ps_expr (pe_bm PySem.F.plainAttrs_list PySem.F.slot_list_pop PySem.F.type_list_pop mt_popAt ho (pa_cons he pa_nil (starEach_plain h2)) (base_of h1) (few_of h2) hl (starEach_plain h2) rfl) rfl) (G.var h1) (soundE (m := .v false) L k G h3)
  | .insO i a e, sc, fn, X, s, W, G, h => by
    rw [chkS] at h
    cases q : asExp s with
    | none => rw [q] at h; cases h
    | some u =>
      obtain ⟨v, pos⟩ := u
      rw [q] at h
      obtain rfl := asExp_eq q
      dsimp only at h
      cases q2 : asMeth2 v with
      | none => rw [q2] at h; cases h
      | some u2 =>
        obtain ⟨o, n, x, y⟩ := u2
        rw [q2] at h
        obtain ⟨ap, cp, rfl, hl⟩ := asMeth2_eq q2
        simp only [Bool.and_eq_true, decide_eq_true_eq, Option.isNone_iff_eq_none] at h
        obtain ⟨⟨⟨⟨⟨rfl, h1⟩, h2⟩, h3⟩, h4⟩, h5⟩ := h
        exact ss_insO (fun ta te to ha he ho => ps_expr (pe_bm PySem.F.plainAttrs_list PySem.F.slot_list_insert PySem.F.type_list_insert mt_insert ho (pa_cons ha (pa_cons he pa_nil (starEach_plain h3)) (starEach_plain h2)) (base_of h1) (few_of2 h2 h3) hl (starEach_plain h2) (by rw [starEach_plain h3]; rfl)) rfl) (G.var h1) (soundE (m := .v false) L a G h4) (soundE (m := .v false) L e G h5)
  | .setO i a e, sc, fn, X, s, W, G, h => by
    rw [chkS] at h
    cases q : asAsg s with
    | none => rw [q] at h; cases h
    | some u =>
      obtain ⟨t, v, pos⟩ := u
      rw [q] at h
      obtain rfl := asAsg_eq q
      dsimp only at h
      cases q2 : asSub t with
      | none => rw [q2] at h; cases h
      | some u2 =>
        obtain ⟨o, j⟩ := u2
        rw [q2] at h
        obtain ⟨pt, rfl⟩ := asSub_eq q2
        simp only [Bool.and_eq_true, Option.isNone_iff_eq_none] at h
        obtain ⟨⟨⟨⟨h0, h1⟩, h2⟩, h3⟩, h4⟩ := h
        obtain ⟨w1, w2⟩ := G.pl (pos := pos) h4
        refine ss_setO (fun te ti to he hi ho => ps_asg he (pg_sub ho hi set_list ?_) w1 w2 rfl) (G.var h1) (soundE (m := .v false) L e G h2) (soundE (m := .v false) L a G h3)
        intro v
        cases j <;> first | rfl | (simp [asSlice] at h0)
  | .never, sc, fn, X, s, W, G, h => wPS ps_never fun D σ H ⟨g, ω, ρ, st, rel, q⟩ => q
  | .parOV i j a b, sc, fn, X, s, W, G, h => by
    rw [chkS] at h
    cases q : asAsg s with
    | none => rw [q] at h; cases h
    | some u =>
      obtain ⟨t, v, pos⟩ := u
      rw [q] at h
      obtain rfl := asAsg_eq q
      dsimp only at h
      split at h
      · rename_i ts' x y q1 q2
        obtain ⟨kt, pt, rfl⟩ := asTup_eq q1
        obtain ⟨kv, pv, rfl⟩ := asTup_eq q2
        simp only [Bool.and_eq_true, decide_eq_true_eq] at h
        obtain ⟨⟨⟨⟨h5, h6⟩, h7⟩, h8⟩, h9⟩ := h
        exact ss_parOV (G.pair h7 h8 h9) (soundNN L G h5) (soundE (m := .v false) L b G h6)
      · cases h
  | .parVO i j a b, sc, fn, X, s, W, G, h => by
    rw [chkS] at h
    cases q : asAsg s with
    | none => rw [q] at h; cases h
    | some u =>
      obtain ⟨t, v, pos⟩ := u
      rw [q] at h
      obtain rfl := asAsg_eq q
      dsimp only at h
      split at h
      · rename_i ts' x y q1 q2
        obtain ⟨kt, pt, rfl⟩ := asTup_eq q1
        obtain ⟨kv, pv, rfl⟩ := asTup_eq q2
        simp only [Bool.and_eq_true, decide_eq_true_eq] at h
        obtain ⟨⟨⟨⟨h5, h6⟩, h7⟩, h8⟩, h9⟩ := h
        exact ss_parVO (G.pair h7 h8 h9) (soundE (m := .v false) L a G h5) (soundNN L G h6)
      · cases h
theorem soundSs (L : Lib p k S Φ) (F : Nat) (fr : Bool) : ∀ (c : Ss) {sc : Scope} {fn : Str → Bool} {X : Cx} {ss : List Stmt} {W : Wx}, Good p k S.N sc fn X → chkSs S fr sc fn c ss = true → PSs X ss (ts X.K fr W (evSs Φ F c))
  | .nil, sc, fn, X, [], W, G, h => sss_nil
  | .nil, sc, fn, X, _ :: _, W, G, h => Bool.noConfusion (show false = true from h)
  | .cons c r, sc, fn, X, ss, W, G, h => by
    cases hc : c with
    | frz i =>
      subst hc
      rw [chkSs] at h
      exact sss_frz (soundSs L F fr r G h)
    | _ =>
      rw [← hc]
      cases ss with
      | nil => subst hc; exact Bool.noConfusion (show false = true from h)
      | cons s ss =>
        have h' : (chkS S fr sc fn c s && chkSs S fr sc fn r ss) = true := by subst hc; exact h
        rw [Bool.and_eq_true] at h'
        exact sss_cons (soundS L F fr c G h'.1) (soundSs L F fr r G h'.2)
end
end
end Ev
namespace Ev
open PySem L2
/-- a def that hands back a new list does only that -/
def retOnly : Ss → Bool
  | .cons (.ret _) .nil => true
  | .cons _ r => retOnly r
  | .nil => false
theorem retOnly_ok {Φ : Nat → List PV → Cel → R PV} {F : Nat} : ∀ {b : Ss}, retOnly b = true → ∀ {ρ ρ' : En} {st st' : Cel}, evSs Φ F b ρ st ≠ .nx ρ' st'
  | .nil, h, _, _, _, _ => by cases h
  | .cons s .nil, h, ρ, ρ', st, st' => by
    cases s <;> first
      | (unfold retOnly retOnly at h; cases h; done)
      | (rename_i e1
         intro e
         rw [evSs, evS] at e
         cases q : ev Φ e1 ρ st with
         | ok x s => rw [q] at e; cases e
         | exc x s => rw [q] at e; cases e
         | bad => rw [q] at e; cases e)
  | .cons s (.cons t r), h, ρ, ρ', st, st' => by
    have h' : retOnly (.cons t r) = true := by cases s <;> exact h
    intro e
    rw [evSs] at e
    cases q : evS Φ F s ρ st with
    | nx ρ1 st1 => rw [q] at e; exact retOnly_ok h' e
    | _ => rw [q] at e; cases e
section
variable {p : Pr} {k : Nat} {S : Sx} {Φ : Nat → List PV → Cel → R PV} {K : PySem.W.Frag} {ω : Wd} {st : Cel} {H : Hp}
theorem init_get {n : Nat} {ts : List PV} {i : Nat} {s : Slot} (h : (initE n ts)[i]? = some s) : (∃ t, s = .val t ∧ ts[i]? = some t) ∨ s = .emp := by
  unfold initE at h
  by_cases hi : i < ts.length
  · rw [List.getElem?_append_left (by simpa using hi), List.getElem?_map] at h
    cases e : ts[i]? with
    | none => rw [e] at h; cases h
    | some t => rw [e] at h; cases h; exact .inl ⟨t, rfl, rfl⟩
  · rw [List.getElem?_append_right (by simpa using hi), List.getElem?_replicate] at h
    split at h
    · cases h; exact .inr rfl
    · cases h
theorem rel_start {N : List Str} {vs : List V} {ts : List PV} (r : RepL K ω H vs ts) (c : CelOk K ω st H) (hl : ts.length ≤ N.length) : Rel K ⟨ω.S, H, ω.cs⟩ ω (initE N.length ts) st (start N vs) H := by
  have e := r.length
  refine ⟨?_, fun i t h => ?_, fun i t h => ?_, fun i j t u a h _ _ _ => ?_, c, fun a o h _ => h, fun _ h => h, fun _ h => .inl h, ⟨[], by simp⟩, fun _ h => .inl h, fun a h => ?_⟩
  · unfold L2.start initE
    simp [e]
  · rcases init_get h with ⟨t', e1, e2⟩ | e1
    · cases e1
      obtain ⟨v, h1, h2⟩ := r.get e2
      refine ⟨v, ?_, h2⟩
      unfold L2.start
      have hi : i < vs.length := by
        rcases Nat.lt_or_ge i vs.length with z | z
        · exact z
        · rw [List.getElem?_eq_none z] at h1; cases h1
      rw [List.getElem?_append_left (by simpa using hi), List.getElem?_map, h1]
      rfl
    · cases e1
  · rcases init_get h with ⟨t', e1, e2⟩ | e1 <;> cases e1
  · rcases init_get h with ⟨t', e1, e2⟩ | e1 <;> cases e1
  · obtain ⟨vs, q⟩ := c.lstAt h
    exact ⟨_, q⟩
theorem Rel.out {ρ : En} {st' : Cel} {σ : L2.St} {ω' : Wd} {H' : Hp} (r : Rel K ⟨ω.S, H, ω.cs⟩ ω' ρ st' σ H') : ExtE ω H ω' H' := by
  refine ⟨r.sub, r.csp, fun a o h n => r.base a o h n, r.new, r.csn, fun a o h => ?_⟩
  by_cases hc : a ∈ ω.cs
  · obtain ⟨m, e⟩ := r.csp
    obtain ⟨vs, q⟩ := r.cells.lstAt (a := a) (by rw [e]; exact List.mem_append_left _ hc)
    exact ⟨_, q⟩
  · exact ⟨o, r.base a o h hc⟩
/-- the body keeps the promise of its run -/
theorem body_ok (L : Lib p k S Φ) (F : Nat) (fr : Bool) {sc : Scope} {body : Ss} {stmts : List Stmt} {X : Cx} {vs : List V} {ts : List PV} {Q : VK} (G : Good p k S.N sc (fun _ => true) X) (hc : chkSs S fr sc (fun _ => true) body stmts = true) (hr : fr = true → retOnly body = true)
    (r : RepL X.K ω H vs ts) (c : CelOk X.K ω st H) (hl : ts.length ≤ S.N.length)
    (h : match fin (evSs Φ F body (initE S.N.length ts) st) with
      | .ok t st' => ∀ v H' ω', ExtE ω H ω' H' → CelOk X.K ω' st' H' → (if fr then FreshP X.K H ω' H' v t else Rep X.K ω' H' v t) → Q v H'
      | _ => False) :
    PSs X stmts (Ev.ts X.K fr (fun _ _ _ _ _ _ _ => True) (evSs Φ F body)) ∧ Ev.ts X.K fr (fun _ _ _ _ _ _ _ => True) (evSs Φ F body) { nx := fun _ H' => Q .non H', rt := Q } (start S.N vs) H := by
  refine ⟨soundSs L F fr body G hc, ⟨⟨ω.S, H, ω.cs⟩, ω, _, st, rel_start r c hl, ?_⟩⟩
  cases e : evSs Φ F body (initE S.N.length ts) st with
  | nx ρ' st' =>
    rw [e] at h
    cases fr with
    | true =>
      exfalso
      exact retOnly_ok (hr rfl) e
    | false =>
      exact fun σ' H' ω' _ rel => h .non H' ω' rel.out rel.cells .non
  | rt v st' =>
    rw [e] at h
    intro x ρ' σ' H' ω' rel rp
    refine h x H' ω' rel.out rel.cells ?_
    unfold RetP at rp
    exact rp
  | bk ρ' st' => rw [e] at h; exact h.elim
  | ct ρ' st' => rw [e] at h; exact h.elim
  | exc x ρ' st' => rw [e] at h; exact h.elim
  | bad => rw [e] at h; exact h.elim
theorem spOf_mono {fr : Bool} {φ ψ : List PV → Cel → R PV} (h : ∀ ts st t st', φ ts st = .ok t st' → ψ ts st = .ok t st') : ∀ vs H Q E, spOf K fr φ vs H Q E → spOf K fr ψ vs H Q E := by
  rintro vs H Q E ⟨ω, st, ts, r, c, q⟩
  refine ⟨ω, st, ts, r, c, ?_⟩
  cases e : φ ts st with
  | ok t st' => rw [e] at q; rw [h _ _ _ _ e]; exact q
  | exc x s => rw [e] at q; exact q.elim
  | bad => rw [e] at q; exact q.elim
/-- the body at a call: the values as they are bound -/
theorem run_body (L : Lib p k S Φ) {F : Nat} {fr : Bool} {x qual : Str} {s : Stmt} {f : Addr} {oc kV doc pm cdv ct : Value} {an od : Option Addr} {osl : Array (Option Value)} {ps : List Str} {body : Ss} {A : Around} {outer : List Env} {sh : Shared} {args : Args} {Q : VK} {E : XK} {Gx : List V → Hp → Prop}
    (lk : p.K.lookup f = some ⟨oc, od, .func (PySem.W.fnOf x qual (defArgs s) (defBody s) (defScope s) .none kV doc pm an cdv ct), osl⟩) (hcd : PySem.W.codeIn p.K cdv qual = true) (Sc : FnScope S.N ps (defScope s)) (hr : Room (k + 1) A) (hg : p.gq = true → A.guards = some [])
    (e0 : Env0 p.P p.w p.K p.mg p.base A outer sh H) (hb : StX.Bnd CX0 p.P p.w p.K p.mg p.base (PySem.W.fnOf x qual (defArgs s) (defBody s) (defScope s) .none kV doc pm an cdv ct) args ps A outer sh H E Gx)
    (hc : chkSs S fr (defScope s) (fun _ => true) body (defBody s) = true) (hrt : fr = true → retOnly body = true)
    (h : ∀ H2 vs, Gx vs H2 → ∃ ω st ts, RepL p.K ω H2 vs ts ∧ CelOk p.K ω st H2 ∧ ts.length ≤ S.N.length ∧ (match fin (evSs Φ F body (initE S.N.length ts) st) with
      | .ok t st' => ∀ v H' ω', ExtE ω H2 ω' H' → CelOk p.K ω' st' H' → (if fr then FreshP p.K H2 ω' H' v t else Rep p.K ω' H' v t) → Q v H'
      | _ => False)) :
    codeAny (model p.P p.w) A (.call (.ref f) args) (CR CX0 outer p.P p.w H sh Q E) sh := by
  refine StX.run_bnd (N := S.N) (ps := ps) lk hcd Sc hr e0 hb fun s2 H2 vs gx hroom => ?_
  obtain ⟨ω, st, ts, r, c, hl, q⟩ := h H2 vs gx
  have G : Good p k S.N (defScope s) (fun _ => true) (cxOf CX0 p.P p.w p.K p.mg p.base S.N qual (defScope s) f cdv A outer s2 H2 E).nox :=
    ⟨rfl, rfl, rfl, rfl, rfl, rfl, Sc.nd, rfl, rfl, rfl, hroom, PassesOwn.never, hg⟩
  obtain ⟨a, b⟩ := body_ok L F fr G hc hrt r c hl q
  exact ⟨_, a.nox, b⟩
/-- a def: its check, its mirror φ -/
theorem def_ok (L : Lib p k S Φ) (F : Nat) {fr : Bool} {x qual : Str} {s : Stmt} {f : Addr} {fd : FuncData} {ps : List Str} {d : Fn} {φ : List PV → Cel → R PV} (Fu : Fun p.K x qual s f fd) (Sc : FnScope S.N ps (defScope s))
    (hb : ∀ (kV doc pm : Value) (an : Option Addr) (cdv ct : Value) (us : List Value), us.length = ps.length → bindArgs (PySem.W.fnOf x qual (defArgs s) (defBody s) (defScope s) .none kV doc pm an cdv ct) ⟨us, []⟩ = pure (ps.zip us))
    (hc : chkSs S fr (defScope s) (fun _ => true) d.body (defBody s) = true) (hr : fr = true → retOnly d.body = true) (h1 : d.star = false) (h2 : d.ar = ps.length) (h3 : d.n = S.N.length) (h4 : ps.length ≤ S.N.length)
    (hφ : ∀ ts st t st', φ ts st = .ok t st' → run Φ F d ts st = .ok t st') : FnG p (k + 1) f (spOf p.K fr φ) := by
  intro A outer sh H us vs Q E hroom hg e0 rv h
  obtain ⟨oc, od, kV, doc, pm, an, cdv, ct, osl, rfl, lk, hcd⟩ := Fu.ex
  obtain ⟨ω, st, ts, r, c, q⟩ := spOf_mono hφ vs H Q E h
  have hl : ts.length = d.ar := by
    cases e : decide (ts.length = d.ar) with
    | true => exact of_decide_eq_true e
    | false =>
      exfalso
      unfold run at q
      rw [h1, if_neg Bool.false_ne_true, if_neg (of_decide_eq_false e)] at q
      exact q
  have hu : us.length = ps.length := by rw [← rv.length, r.length, hl, h2]
  refine run_body L (F := F) lk hcd Sc hroom hg e0 (ps := ps) (Gx := fun ws H2 => ws = vs ∧ H2 = H) ?_ hc hr fun H2 ws z => ?_
  · intro A' Ex Q' kk
    rw [hb kV doc pm an cdv ct us hu]
    exact wpAny_pure (kk sh H vs us e0 Un.refl rfl (fun _ _ z => z) rv (by rw [rv.length, hu]) ⟨rfl, rfl⟩)
  · obtain ⟨rfl, rfl⟩ := z
    refine ⟨ω, st, ts, r, c, by rw [hl, h2]; exact h4, ?_⟩
    have e : run Φ F d ts st = fin (evSs Φ F d.body (initE S.N.length ts) st) := by
      unfold run
      rw [h1, if_neg Bool.false_ne_true, if_pos hl, h3]
    rw [e] at q
    exact q
/-- a def with a star parameter -/
theorem def_star (L : Lib p k S Φ) (F : Nat) {x qual : Str} {s : Stmt} {f : Addr} {fd : FuncData} {ps : List Str} {pv : Str} {d : Fn} {φ : List PV → Cel → R PV} (Fu : Fun p.K x qual s f fd) (Sc : FnScope S.N (ps ++ [pv]) (defScope s))
    (hb : ∀ (kV doc pm : Value) (an : Option Addr) (cdv ct : Value) (us rest : List Value), us.length = ps.length → bindArgs (PySem.W.fnOf x qual (defArgs s) (defBody s) (defScope s) .none kV doc pm an cdv ct) ⟨us ++ rest, []⟩ = (newTuple rest >>= fun t => pure (ps.zip us ++ [(pv, t)])))
    (hc : chkSs S false (defScope s) (fun _ => true) d.body (defBody s) = true) (h1 : d.star = true) (h2 : d.ar = ps.length) (h3 : d.n = S.N.length) (h4 : ps.length + 1 ≤ S.N.length)
    (hφ : ∀ ts st t st', φ ts st = .ok t st' → run Φ F d ts st = .ok t st') : FnG p (k + 1) f (spOf p.K false φ) := by
  intro A outer sh H us vs Q E hroom hg e0 rv h
  obtain ⟨oc, od, kV, doc, pm, an, cdv, ct, osl, rfl, lk, hcd⟩ := Fu.ex
  obtain ⟨ω, st, ts, r, c, q⟩ := spOf_mono hφ vs H Q E h
  unfold run at q
  rw [h1, if_pos rfl] at q
  by_cases hz : (decide (d.ar ≤ ts.length) && szOk (ts.length - d.ar)) = true
  rotate_left
  · rw [if_neg hz] at q; exact q.elim
  rw [if_pos hz, h3] at q
  rw [Bool.and_eq_true, decide_eq_true_eq] at hz
  have hle := hz.1
  have hsz := szOk_le hz.2
  have vl := r.length
  have ul := rv.length
  refine run_body L (F := F) (fr := false) lk hcd Sc hroom hg e0 (ps := ps ++ [pv]) (Gx := fun ws H2 => ∃ a, H a = none ∧ ws = vs.take d.ar ++ [.ref a] ∧ H2 = upd H a (.tup (vs.drop d.ar))) ?_ hc (fun z => by cases z) fun H2 ws z => ?_
  · intro A' Ex Q' kk
    have e1 : (us.take d.ar).length = ps.length := by rw [List.length_take, ← h2]; omega
    have e2 : (us.drop d.ar).length ≤ sizeLine := by rw [List.length_drop]; omega
    have bs := hb kV doc pm an cdv ct (us.take d.ar) (us.drop d.ar) e1
    rw [List.take_append_drop] at bs
    rw [bs]
    have hn : H sh.heap.objs.size = none := e0.hok.fresh (Nat.le_refl _)
    have tt : ObjOk p.P p.w (upd H sh.heap.objs.size (.tup (vs.drop d.ar))) (sh.heap.push { cls := .type "tuple", data := .seq (us.drop d.ar).toArray }) sh.heap.objs.size (.tup (vs.drop d.ar)) :=
      ⟨by rw [List.length_drop]; omega, us.drop d.ar, rv.drop d.ar, ⟨_, Heap.get?_push_size _ rfl, rfl, _, rfl⟩⟩
    refine wpAny_bind (wpAny_newTuple (wpAny_pure ?_) e2)
    have fin := kk _ _ (vs.take d.ar ++ [.ref sh.heap.objs.size]) (us.take d.ar ++ [.ref sh.heap.objs.size]) (StX.env0_laid e0 tt) (StX.un_laid hn) rfl (fun _ _ z => z) ((rv.take d.ar).append (.cons (show RelV (.ref sh.heap.objs.size) (.ref sh.heap.objs.size) from rfl) .nil))
      (by rw [List.length_append, List.length_append, List.length_take, ← h2]; simp only [List.length_cons, List.length_nil]; omega) ⟨_, hn, rfl, rfl⟩
    rw [List.zip_append e1.symm] at fin
    exact fin
  · obtain ⟨a, ha, rfl, rfl⟩ := z
    refine ⟨ω, st, ts.take d.ar ++ [.tup (ts.drop d.ar)], ((r.take _).mono (Grow.upd ha).ext).append (.cons (.tup (.inl (.inl upd_same)) ((r.drop _).mono (Grow.upd ha).ext)) .nil), c.grow (Grow.upd ha), ?_, ?_⟩
    · rw [List.length_append, List.length_take]
      simp only [List.length_cons, List.length_nil]
      omega
    · revert q
      cases fin (evSs Φ F d.body (initE S.N.length (ts.take d.ar ++ [.tup (ts.drop d.ar)])) st) with
      | ok t st' => exact fun q v H' ω' x c' rp => q v H' ω' ((Grow.upd ha).toE.trans x) c' rp
      | exc x s => exact fun q => q
      | bad => exact fun q => q
end
end Ev
namespace Ev
open PySem L2 GenW
/-! ### generator defs: plain statements, then `for x in it: if t: yield e` -/
def asGF : Stmt → Option (Expr × Expr × Expr × Expr)
  | .For tg iter [.If test [.Expr (.Yield (some e) _) _] [] _] [] _ => some (tg, iter, test, e)
  | _ => none
theorem asGF_eq {s : Stmt} {tg iter test e : Expr} (h : asGF s = some (tg, iter, test, e)) : ∃ yp ep ip pos, s = .For tg iter [.If test [.Expr (.Yield (some e) yp) ep] [] ip] [] pos := by
  unfold asGF at h
  split at h
  · cases h; exact ⟨_, _, _, _, rfl⟩
  · cases h
def plainG : Ev.S → Bool
  | .asg _ _ => true
  | .for_ _ _ (.cons (.asg _ _) .nil) => true
  | _ => false
def lastG : Ev.S → Option (C × Nat × C × C)
  | .ret (.comp elt [i] it (.cons t .nil) []) => some (elt, i, it, t)
  | _ => none
theorem lastG_eq {c : Ev.S} {elt it t : C} {i : Nat} (h : lastG c = some (elt, i, it, t)) : c = .ret (.comp elt [i] it (.cons t .nil) []) := by
  unfold lastG at h
  split at h
  · cases h; rfl
  · cases h
def chkG (S : Sx) (sc : Scope) (fn : Str → Bool) : Ss → List Stmt → Bool
  | .nil, _ => false
  | .cons _ _, [] => false
  | .cons c .nil, s :: ss => ss.isEmpty && (match lastG c, asGF s with
    | some (elt, i, it, t), some (tg, iter, test, e) => chkTg1 S.N sc fn i tg && chkE S sc fn (.i false false) it iter && !isSet iter && chkT S sc fn t test && chkE S sc fn (.v false) elt e
    | _, _ => false)
  | .cons c (.cons d r), s :: ss => plainG c && chkS S false sc fn c s && chkG S sc fn (.cons d r) ss
def tGen (K : PySem.W.Frag) (f : En → Cel → RS) : TGn := fun D ys σ H => ys = [] ∧ ∃ g ω ρ st, Rel K g ω ρ st σ H ∧ match f ρ st with
  | .rt (.lst zs) st' => ∀ out ρ' σ' H' ω', Rel K g ω' ρ' st' σ' H' → RepL K ω' H' out zs → D.nx out σ' H'
  | _ => False
section
variable {p : Pr} {k : Nat} {S : Sx} {Φ : Nat → List PV → Cel → R PV} {sc : Scope} {fn : Str → Bool} {X : Cx}
theorem wGS {st : Stmt} {t t' : TGn} (h : GS X st t) (i : ∀ D ys σ H, t' D ys σ H → t D ys σ H) : GS X st t' := ⟨fun A S ip R n ys s₀ c fs K J gd lv s σ H D a b c' d e => h.run A S ip R n ys s₀ c fs K J gd lv s σ H D a b c' d (i _ _ _ _ e)⟩
theorem wGSs {st : List Stmt} {t t' : TGn} (h : GSs X st t) (i : ∀ D ys σ H, t' D ys σ H → t D ys σ H) : GSs X st t' := ⟨fun A S ip R n ys s₀ c fs K J gd lv s σ H D a b c' d e => h.run A S ip R n ys s₀ c fs K J gd lv s σ H D a b c' d (i _ _ _ _ e)⟩
theorem asg_nort {F : Nat} {tg : List Nat} {e : C} {ρ : En} {st st' : Cel} {v : PV} : evS Φ F (.asg tg e) ρ st ≠ .rt v st' := by
  intro z
  rw [evS] at z
  cases q : ev Φ e ρ st with
  | ok x s =>
    rw [q] at z
    simp only [R.then_ok] at z
    split at z <;> cases z
  | exc x s => rw [q] at z; cases z
  | bad => rw [q] at z; cases z
theorem forL_nort {f : PV → En → Cel → RS} (h : ∀ x ρ st v st', f x ρ st ≠ .rt v st') : ∀ (xs : List PV) {ρ : En} {st st' : Cel} {v : PV}, forL f xs ρ st ≠ .rt v st'
  | [], _, _, _, _, z => by cases z
  | x :: xs, ρ, st, st', v, z => by
    unfold forL at z
    cases q : f x ρ st with
    | nx ρ1 st1 => rw [q] at z; exact forL_nort h xs z
    | ct ρ1 st1 => rw [q] at z; exact forL_nort h xs z
    | bk ρ1 st1 => rw [q] at z; cases z
    | rt v1 st1 => exact h x ρ st v1 st1 q
    | exc e ρ1 st1 => rw [q] at z; cases z
    | bad => rw [q] at z; cases z
theorem plain_nort {F : Nat} {c : Ev.S} (h : plainG c = true) {ρ : En} {st st' : Cel} {v : PV} : evS Φ F c ρ st ≠ .rt v st' := by
  unfold plainG at h
  split at h
  · exact asg_nort
  · rename_i tg it tg2 e2
    intro z
    rw [evS] at z
    cases q : ev Φ it ρ st with
    | ok x s =>
      rw [q] at z
      simp only [R.then_ok] at z
      split at z
      · refine forL_nort (fun x ρ st v st' w => ?_) _ z
        split at w
        · rw [evSs] at w
          rename_i ρ1 _
          cases q2 : evS Φ F (.asg tg2 e2) ρ1 st with
          | rt v1 s1 => exact asg_nort q2
          | nx ρ2 st2 => rw [q2] at w; cases w
          | ct ρ2 st2 => rw [q2] at w; cases w
          | bk ρ2 st2 => rw [q2] at w; cases w
          | exc e ρ2 st2 => rw [q2] at w; cases w
          | bad => rw [q2] at w; cases w
        · cases w
      · cases z
    | exc x s => rw [q] at z; cases z
    | bad => rw [q] at z; cases z
  · cases h
theorem gs_last (L : Lib p k S Φ) (F : Nat) (G : Good p k S.N sc fn X) {elt it t : C} {i : Nat} {tg iter test e : Expr} {yp ep ip pos : Pos} (hco : X.env.scope.isCoroutine = false) (hint : interactive X.env = false) (h1 : chkTg1 S.N sc fn i tg = true) (h2 : chkE S sc fn (.i false false) it iter = true) (h3 : isSet iter = false) (h4 : chkT S sc fn t test = true) (h5 : chkE S sc fn (.v false) elt e = true) :
    GS X (.For tg iter [.If test [.Expr (.Yield (some e) yp) ep] [] ip] [] pos) (tGen X.K (evS Φ F (.ret (.comp elt [i] it (.cons t .nil) [])))) := by
  have base := Gn.gs_for (pos := pos) G.pass G.calm (soundE (m := .i false false) (W := W0) L it G h2 tg (fun z => by cases z)) (G.tg1 h1) (gss_cons (Gn.gs_if (pos := ip) (soundT (W := W0) L t G h4) (gss_cons (gs_yield (yp := yp) (pos := ep) (soundE (m := .v false) (W := W0) L elt G h5) hco hint) gss_nil) gss_nil) gss_nil) (fsi_of h3)
  refine wGS base fun D ys σ H ⟨hy, g, ω, ρ, st, rel, q⟩ => ?_
  subst hy
  have hd : evS Φ F (.ret (.comp elt [i] it (.cons t .nil) [])) ρ st = ((ev Φ it ρ st).bind fun iv st => match itemsOf iv with
    | some xs => (compL (turnF Φ elt [i] (.cons t .nil) [] ρ) xs st).bind fun ys st => if szOk ys.length then .ok (.lst ys) st else .bad
    | none => .bad).then ρ fun x st => .rt x st := by
    rw [evS, ev]
    rfl
  rw [hd] at q
  refine ⟨g, ω, ρ, st, rel, ?_⟩
  cases e1 : ev Φ it ρ st with
  | bad => rw [e1] at q; exact q.elim
  | exc x s => rw [e1] at q; exact q.elim
  | ok iv s =>
    rw [e1] at q
    simp only [R.bind_ok] at q
    cases e2 : itemsOf iv with
    | none => rw [e2] at q; exact q.elim
    | some xs =>
      rw [e2] at q
      refine ⟨xs, e2, fun J H1 ω1 x1 c1 hJ => ?_⟩
      dsimp only at q
      cases e3 : compL (turnF Φ elt [i] (.cons t .nil) [] ρ) xs s with
      | bad => rw [e3] at q; exact q.elim
      | exc x s3 => exact absurd e3 (compL_noexc xs s)
      | ok full stF =>
        rw [e3] at q
        simp only [R.bind_ok] at q
        have hz : szOk full.length = true := by
          cases z : szOk full.length with
          | true => rfl
          | false => rw [z] at q; exact q.elim
        rw [if_pos hz] at q
        have hz' := szOk_le hz
        refine ⟨fun n m ys σ H => m = xs.length - n ∧ n ≤ xs.length ∧ ∃ ω' ρ' st' zs rest, Ext ω1 H1 ω' H ∧ Rel X.K g ω' ρ' st' σ H ∧ (∀ y, set1 ρ' i y = set1 ρ i y) ∧ RepL X.K ω' H ys zs ∧ compL (turnF Φ elt [i] (.cons t .nil) [] ρ) (xs.drop n) st' = .ok rest stF ∧ full = zs ++ rest,
          ⟨xs.length, by simp, Nat.zero_le _, ω1, ρ, s, [], full, Ext.refl _ _, rel.extE x1 c1, fun _ => rfl, .nil, e3, rfl⟩, ?_⟩
        rintro n m ys2 σ2 H2 ⟨rfl, hn, ω2, ρ2, st2, zs, rest, x2, rel2, hs, r2, e4, e5⟩
        obtain ⟨go, stop, yld⟩ := hJ ω2 H2 x2 (fun z => by cases z)
        rcases Nat.lt_or_ge n xs.length with hlt | hge
        rotate_left
        · have ei : n = xs.length := by omega
          subst ei
          rw [List.drop_length] at e4
          cases e4
          rw [List.append_nil] at e5
          subst e5
          exact .inl ⟨stop, q ys2 ρ2 σ2 H2 ω2 rel2 r2⟩
        · refine .inr ⟨go n hlt, fun ys σ H => n + 1 ≤ xs.length ∧ ∃ ω' ρ' st' zs rest, Ext ω1 H1 ω' H ∧ Rel X.K g ω' ρ' st' σ H ∧ (∀ y, set1 ρ' i y = set1 ρ i y) ∧ RepL X.K ω' H ys zs ∧ compL (turnF Φ elt [i] (.cons t .nil) [] ρ) (xs.drop (n + 1)) st' = .ok rest stF ∧ full = zs ++ rest,
            fun ys' σ' H' hN => ⟨xs.length - (n + 1), by omega, rfl, hN.1, hN.2⟩, fun x H3 hy => ?_⟩
          obtain ⟨ω3, t3, w3, ex, rx⟩ := yld n x H3 hlt hy
          have rel4 : Rel X.K g ω3 (set1 ρ i t3) st2 (σ2.set i (some x)) H3 := by rw [← hs]; exact (rel2.grow w3).set i rx
          have x13 : Ext ω1 H1 ω3 H3 := x2.trans w3.ext
          have ss : ∀ y, set1 (set1 ρ i t3) i y = set1 ρ i y := fun y => by unfold set1; rw [List.set_set]
          rw [drop_cons ex] at e4
          unfold compL at e4
          have ef : turnF Φ elt [i] (.cons t .nil) [] ρ t3 st2 = (asB (ev Φ t) (set1 ρ i t3) st2).bind fun b st => if b then (ev Φ elt (set1 ρ i t3) st).bind fun y st => .ok (some y) st else .ok none st := rfl
          rw [ef] at e4
          show tvbb X.K W0 (asB (ev Φ t)) (σ2.set i (some x)) H3 _
          refine ⟨g, ω3, set1 ρ i t3, st2, rel4, ?_⟩
          cases et : asB (ev Φ t) (set1 ρ i t3) st2 with
          | bad => rw [et] at e4; cases e4
          | exc x7 s7 => rw [et] at e4; cases e4
          | ok bv s5 =>
            rw [et] at e4
            simp only [R.bind_ok] at e4
            intro b5 H5 ω5 x5 c5 pb
            cases (show bv = b5 from pb)
            have rel5 := rel4.extE x5 c5
            have x15 : Ext ω1 H1 ω5 H5 := x13.trans (x5.ext rel4.cells)
            have r5 : RepL X.K ω5 H5 ys2 zs := (r2.mono w3.ext).mono (x5.ext rel4.cells)
            cases bv with
            | false =>
              rw [if_neg Bool.false_ne_true]
              simp only [Bool.false_eq_true, if_false] at e4
              cases e9 : compL (turnF Φ elt [i] (.cons t .nil) [] ρ) (xs.drop (n + 1)) s5 with
              | bad => rw [e9] at e4; cases e4
              | exc x9 s9 => exact absurd e9 (compL_noexc _ _)
              | ok restj s9 =>
                rw [e9] at e4
                cases e4
                exact ⟨hlt, ω5, set1 ρ i t3, s5, zs, rest, x15, rel5, ss, r5, e9, e5⟩
            | true =>
              rw [if_pos rfl]
              simp only [if_true] at e4
              cases ee : ev Φ elt (set1 ρ i t3) s5 with
              | bad => rw [ee] at e4; cases e4
              | exc x9 s9 => rw [ee] at e4; cases e4
              | ok yv s8 =>
                rw [ee] at e4
                simp only [R.bind_ok] at e4
                cases e9 : compL (turnF Φ elt [i] (.cons t .nil) [] ρ) (xs.drop (n + 1)) s8 with
                | bad => rw [e9] at e4; cases e4
                | exc x9 s9 => exact absurd e9 (compL_noexc _ _)
                | ok restj s9 =>
                  rw [e9] at e4
                  cases e4
                  refine ⟨?_, g, ω5, set1 ρ i t3, s5, rel5, ?_⟩
                  · rw [r5.length]
                    have l1 := congrArg List.length e5
                    simp at l1
                    omega
                  · rw [ee]
                    intro v H8 ω8 x8 c8 pv
                    exact ⟨hlt, ω8, set1 ρ i t3, s8, zs ++ [yv], restj, x15.trans (x8.ext rel5.cells), rel5.extE x8 c8, ss, (r5.mono (x8.ext rel5.cells)).append (.cons pv.rep .nil), e9, by rw [e5]; simp⟩
theorem gss_ok (L : Lib p k S Φ) (F : Nat) (G : Good p k S.N sc fn X) (hco : X.env.scope.isCoroutine = false) (hint : interactive X.env = false) : ∀ (b : Ss) (ss : List Stmt), chkG S sc fn b ss = true → GSs X ss (tGen X.K (evSs Φ F b))
  | .nil, _, h => by cases h
  | .cons _ _, [], h => by rename_i c r; cases r <;> exact Bool.noConfusion (show false = true from h)
  | .cons c .nil, s :: ss, h => by
    unfold chkG at h
    rw [Bool.and_eq_true, List.isEmpty_iff] at h
    obtain ⟨rfl, h⟩ := h
    split at h
    · rename_i elt i it t tg iter test e e1 e2
      have ec := lastG_eq e1
      subst ec
      obtain ⟨yp, ep, ip, pos, rfl⟩ := asGF_eq e2
      simp only [Bool.and_eq_true, Bool.not_eq_true'] at h
      obtain ⟨⟨⟨⟨h1, h2⟩, h3⟩, h4⟩, h5⟩ := h
      refine wGSs (gss_cons (gs_last L F G hco hint h1 h2 h3 h4 h5) gss_nil) fun D ys σ H ⟨hy, g, ω, ρ, st, rel, q⟩ => ⟨hy, g, ω, ρ, st, rel, ?_⟩
      rw [evSs] at q
      revert q
      cases evS Φ F (.ret (.comp elt [i] it (.cons t .nil) [])) ρ st with
      | rt v st' => exact fun q => q
      | nx ρ' st' => exact fun q => q.elim
      | bk ρ' st' => exact fun q => q.elim
      | ct ρ' st' => exact fun q => q.elim
      | exc e ρ' st' => exact fun q => q.elim
      | bad => exact fun q => q.elim
    · cases h
  | .cons c (.cons d r), s :: ss, h => by
    unfold chkG at h
    rw [Bool.and_eq_true, Bool.and_eq_true] at h
    have a := soundS (W := fun _ _ _ _ _ _ _ => True) L F false c G h.1.2
    refine wGSs (gss_cons (gs_ps a) (gss_ok L F G hco hint (.cons d r) ss h.2)) fun D ys σ H ⟨hy, g, ω, ρ, st, rel, q⟩ => ?_
    subst hy
    refine ⟨g, ω, ρ, st, rel, ?_⟩
    rw [evSs] at q
    cases e : evS Φ F c ρ st with
    | nx ρ' st' =>
      rw [e] at q
      exact fun σ' H' ω' _ rel' => ⟨rfl, g, ω', ρ', st', rel', q⟩
    | rt v st' => exact absurd e (plain_nort h.1.1)
    | bk ρ' st' => rw [e] at q; exact q.elim
    | ct ρ' st' => rw [e] at q; exact q.elim
    | exc e ρ' st' => rw [e] at q; exact q.elim
    | bad => rw [e] at q; exact q.elim
end
section
variable {p : Pr} {k : Nat} {S : Sx} {Φ : Nat → List PV → Cel → R PV}
theorem gen_ok (L : Lib p k S Φ) (F : Nat) (hq : p.gq = false) {x qual : Str} {s : Stmt} {f : Addr} {fd : FuncData} {ps : List Str} {d : Fn} {φ : List PV → Cel → R PV} (Fu : Fun p.K x qual s f fd) (Sc : GScope S.N ps (defScope s))
    (hc : chkG S (defScope s) (fun _ => true) d.body (defBody s) = true) (h1 : d.star = false) (h2 : d.ar = ps.length) (h3 : d.n = S.N.length) (h4 : ps.length ≤ S.N.length)
    (hφ : ∀ ts st t st', φ ts st = .ok t st' → run Φ F d ts st = .ok t st') : GFn p.P p.w p.K p.mg p.base (k + 1) f fd ps (spG p.K φ) := by
  obtain ⟨oc, od, kV, doc, pm, an, cdv, ct, osl, rfl, lk, hcd⟩ := Fu.ex
  have arg : ∀ {vs : List V} {H : Hp} {Q : List V → Hp → Prop} {E : XK}, spG p.K φ vs H Q E → ∃ ω st ts, RepL p.K ω H vs ts ∧ CelOk p.K ω st H ∧ ts.length = ps.length ∧ (match fin (evSs Φ F d.body (initE S.N.length ts) st) with
      | .ok (.lst ys) st' => ∀ out H' ω', ExtE ω H ω' H' → CelOk p.K ω' st' H' → RepL p.K ω' H' out ys → Q out H'
      | _ => False) := fun {vs H Q E} h => by
    obtain ⟨ω, st, ts, r, c, q⟩ := h
    cases e : φ ts st with
    | ok t st' =>
      rw [e] at q
      have e2 := hφ _ _ _ _ e
      unfold run at e2
      rw [h1, if_neg Bool.false_ne_true] at e2
      by_cases hl : ts.length = d.ar
      · rw [if_pos hl, h3] at e2
        exact ⟨ω, st, ts, r, c, hl.trans h2, by rw [e2]; exact q⟩
      · rw [if_neg hl] at e2; cases e2
    | exc x s => rw [e] at q; exact q.elim
    | bad => rw [e] at q; exact q.elim
  refine gfn_of lk hcd Sc (fun vs H Q E h => ?_) fun A outer sh H vs Q E pn hroom h => ?_
  · obtain ⟨ω, st, ts, r, c, hl, _⟩ := arg h
    rw [r.length, hl]
  · obtain ⟨ω, st, ts, r, c, hl, q⟩ := arg h
    have G : Good p k S.N (defScope s) (fun _ => true) (gcxOf p.P p.w p.K p.mg p.base S.N qual (defScope s) f cdv A outer sh H E pn) :=
      ⟨rfl, rfl, rfl, rfl, rfl, rfl, Sc.nd, rfl, rfl, rfl, hroom, owns_gcx, fun z => by rw [hq] at z; cases z⟩
    refine ⟨_, gss_ok L F G Sc.co (by show ((defScope s).kind == .module && _) = false; rw [Sc.kind]; rfl) d.body _ hc, rfl, ⟨ω.S, H, ω.cs⟩, ω, _, st, rel_start r c (by rw [hl]; exact h4), ?_⟩
    cases e : evSs Φ F d.body (initE S.N.length ts) st with
    | rt v st' =>
      rw [e] at q
      cases v with
      | lst ys => exact fun out ρ' σ' H' ω' rel rp => q out H' ω' rel.out rel.cells rp
      | _ => exact q.elim
    | nx ρ' st' => rw [e] at q; exact q.elim
    | bk ρ' st' => rw [e] at q; exact q.elim
    | ct ρ' st' => rw [e] at q; exact q.elim
    | exc x ρ' st' => rw [e] at q; exact q.elim
    | bad => rw [e] at q; exact q.elim
end
end Ev
namespace Ev
open PySem L2
/-! ### __init__: calls whose value is dropped, and `self.x = e`; calls by keywords -/
inductive II where
  | ex (e : C) | at_ (x : Str) (e : C)
def evI (Φ : Nat → List PV → Cel → R PV) (cn : Str) : List II → En → Cel → List Str → List PV → R PV
  | [], _, st, ks, xs => .ok (.obj cn ks xs) st
  | .ex e :: r, ρ, st, ks, xs => (ev Φ e ρ st).noexc.bind fun _ st => evI Φ cn r ρ st ks xs
  | .at_ x e :: r, ρ, st, ks, xs => (ev Φ e ρ st).noexc.bind fun t st => if ks.contains x then .bad else evI Φ cn r ρ st (ks ++ [x]) (xs ++ [t])
def runI (Φ : Nat → List PV → Cel → R PV) (cn : Str) (ar n : Nat) (its : List II) (ts : List PV) (st : Cel) : R PV := if ts.length + 1 = ar then evI Φ cn its (.emp :: initE (n - 1) ts) st [] [] else .bad
def asFld : Stmt → Option (Expr × Str × Expr)
  | .Assign [.Attribute o x _] v _ => some (o, x, v)
  | _ => none
theorem asFld_eq {s : Stmt} {o v : Expr} {x : Str} (h : asFld s = some (o, x, v)) : ∃ p q, s = .Assign [.Attribute o x p] v q := by
  unfold asFld at h
  split at h
  · cases h; exact ⟨_, _, rfl⟩
  · cases h
def chkI (S : Sx) (cn : Str) (sc : Scope) (fn : Str → Bool) : List II → List Stmt → Bool
  | [], [] => true
  | .ex e :: r, s :: ss => (match asExp s with
    | some (v, _) => chkE S sc fn (.v true) e v && (compScope v).isNone
    | none => false) && chkI S cn sc fn r ss
  | .at_ x e :: r, s :: ss => (match asFld s with
    | some (o, y, v) => decide (y = x) && isNm S.N sc 0 o && S.fl cn x && chkE S sc fn (.v false) e v
    | none => false) && chkI S cn sc fn r ss
  | _, _ => false
theorem sws_fld {o v : Expr} {x : Str} {q : Pos} {l : Nat} {env : Env} : swapsWith v (some (.Attribute o x q)) l env = pure false := by
  cases v <;> rfl
section
variable {p : Pr} {k : Nat} {S : Sx} {Φ : Nat → List PV → Cel → R PV} {K : PySem.W.Frag} {g : Gh} {ω ω' ω0 : Wd} {ρ : En} {st st' : Cel} {σ : L2.St} {H H' H1 : Hp} {a C dx : Addr}
theorem putF_new {x : Str} {v : V} : ∀ {fv : List (Str × V)}, (fv.map (·.1)).contains x = false → putF x v fv = fv ++ [(x, v)]
  | [], _ => rfl
  | (k, u) :: fv, h => by
    rw [List.map_cons, List.contains_cons, Bool.or_eq_false_iff] at h
    have hk : k ≠ x := fun e => by rw [e] at h; simp at h
    unfold putF
    rw [if_neg hk, putF_new h.2]
    rfl
/-- the reading of the rest of an __init__ -/
structure InI (K : PySem.W.Frag) (C a dx : Addr) (ω0 : Wd) (H1 : Hp) (g : Gh) (ω : Wd) (ρ : En) (st : Cel) (σ : L2.St) (H : Hp) (fv : List (Str × V)) (ts : List PV) : Prop where
  rel : Rel K g ω ρ st σ H
  gS : g.S0 = ω0.S
  gc : g.cs0 = ω0.cs
  gH : ∀ b o, H1 b = some o → g.H0 b = some o
  new : H1 a = none
  slf : σ[0]? = some (some (.ref a))
  at_ : H a = some (.ins C dx fv)
  gat : g.H0 a = some (.ins C dx fv)
  nS : ¬ ω.S a
  nc : a ∉ ω.cs
  rp : RepL K ω H (fv.map (·.2)) ts
def tI (K : PySem.W.Frag) (C a dx : Addr) (ω0 : Wd) (H1 : Hp) (m : Nat) (f : En → Cel → List Str → List PV → R PV) : TS := fun D σ H => ∃ g ω ρ st fv ts, InI K C a dx ω0 H1 g ω ρ st σ H fv ts ∧ fv.length + m < 1000 ∧ match f ρ st (fv.map (·.1)) ts with
  | .ok t st' => ∀ σ' H' ω', ExtE ω0 H1 ω' H' → CelOk K ω' st' H' → Rep K ω' H' (.ref a) t → D.nx σ' H'
  | _ => False
theorem InI.extE {fv : List (Str × V)} {ts : List PV} (h : InI K C a dx ω0 H1 g ω ρ st σ H fv ts) (x : ExtE ω H ω' H') (c : CelOk K ω' st' H') : InI K C a dx ω0 H1 g ω' ρ st' σ H' fv ts := by
  refine ⟨h.rel.extE x c, h.gS, h.gc, h.gH, h.new, h.slf, x.keep _ _ h.at_ h.nc, h.gat, fun z => ?_, fun z => ?_, h.rp.mono (x.ext h.rel.cells)⟩
  · rcases x.newS a z with q | q
    · exact h.nS q
    · rw [h.at_] at q; cases q
  · rcases x.newC a z with q | q
    · exact h.nc q
    · rw [h.at_] at q; cases q
theorem InI.put {fv : List (Str × V)} {ts : List PV} {x : Str} {v : V} {t : PV} (h : InI K C a dx ω0 H1 g ω ρ st σ H fv ts) (r : Rep K ω H v t) :
    InI K C a dx ω0 H1 ⟨g.S0, upd g.H0 a (.ins C dx (fv ++ [(x, v)])), g.cs0⟩ ω ρ st σ (upd H a (.ins C dx (fv ++ [(x, v)]))) (fv ++ [(x, v)]) (ts ++ [t]) := by
  have e : Ext ω H ω (upd H a (.ins C dx (fv ++ [(x, v)]))) := extUpd' h.at_ id h.nS
  have r0 := h.rel
  refine ⟨⟨r0.len, fun i t hi => ?_, fun i t hi => ?_, r0.sep, r0.cells.upd' h.at_ id h.nS h.nc, fun b o hb hc => ?_, r0.sub, fun b hb => ?_, r0.csp, fun b hb => ?_, fun b hb => ?_⟩, h.gS, h.gc, fun b o hb => ?_, h.new, h.slf, upd_same, upd_same, h.nS, h.nc, ?_⟩
  · obtain ⟨v, e1, q⟩ := r0.val i t hi
    exact ⟨v, e1, q.mono e⟩
  · obtain ⟨b, e0, ⟨vs, ts, e1, e2, e3⟩, ns, nc, n0⟩ := r0.own i t hi
    have ne : b ≠ a := fun z => by rw [z, h.at_] at e2; cases e2
    exact ⟨b, e0, ⟨vs, ts, e1, by rw [upd_ne ne]; exact e2, e3.mono e⟩, ns, nc, by show upd g.H0 a _ b = none; rw [upd_ne ne]; exact n0⟩
  · by_cases ne : b = a
    · subst ne
      have hb' : upd g.H0 b (.ins C dx (fv ++ [(x, v)])) b = some o := hb
      rw [upd_same] at hb' ⊢
      exact hb'
    · have hb' : upd g.H0 a (.ins C dx (fv ++ [(x, v)])) b = some o := hb
      rw [upd_ne ne] at hb' ⊢
      exact r0.base b o hb' hc
  · have ne : b ≠ a := fun z => h.nS (by rw [← z]; exact hb)
    rcases r0.new b hb with q | q
    · exact .inl q
    · exact .inr (by show upd g.H0 a _ b = none; rw [upd_ne ne]; exact q)
  · have ne : b ≠ a := fun z => h.nc (by rw [← z]; exact hb)
    rcases r0.csn b hb with q | q
    · exact .inl q
    · exact .inr (by show upd g.H0 a _ b = none; rw [upd_ne ne]; exact q)
  · have ne : b ≠ a := fun z => by
      obtain ⟨m, q⟩ := r0.csp
      exact h.nc (by rw [q, ← z]; exact List.mem_append_left _ hb)
    obtain ⟨o, q⟩ := r0.cs0 b hb
    exact ⟨o, by show upd g.H0 a _ b = some o; rw [upd_ne ne]; exact q⟩
  · have ne : b ≠ a := fun z => by rw [z, h.new] at hb; cases hb
    show upd g.H0 a _ b = some o
    rw [upd_ne ne]
    exact h.gH b o hb
  · rw [List.map_append]
    exact (h.rp.mono e).append (.cons (r.mono e) .nil)
theorem InI.out {cn : Str} {fv : List (Str × V)} {ts : List PV} (h : InI K C a dx ω0 H1 g ω ρ st σ H fv ts) (hn : PySem.W.nsIn K mainGlobals cn = some (some (.ref C))) : ExtE ω0 H1 (ω.add a) H ∧ CelOk K (ω.add a) st H ∧ Rep K (ω.add a) H (.ref a) (.obj cn (fv.map (·.1)) ts) := by
  have r0 := h.rel
  have e : Ext ω H (ω.add a) H := ⟨fun _ z => .inl z, ⟨[], by show ω.cs = ω.cs ++ []; simp⟩, fun _ _ z _ => z⟩
  refine ⟨⟨fun b z => .inl (r0.sub b (by rw [h.gS]; exact z)), ?_, fun b o hb hc => r0.base b o (h.gH b o hb) (by rw [h.gc]; exact hc), fun b z => ?_, fun b z => ?_, fun b o hb => ?_⟩, ⟨r0.cells.len, r0.cells.nd, fun b hb z => ?_, fun b z => ?_, fun k b hb => ?_⟩, .obj hn (.inr rfl) h.at_ (h.rp.mono e)⟩
  · obtain ⟨m, q⟩ := r0.csp
    exact ⟨m, by show ω.cs = _; rw [q, h.gc]⟩
  · rcases z with z | z
    · rcases r0.new b z with q | q
      · exact .inl (by rw [← h.gS]; exact q)
      · right
        cases w : H1 b with
        | none => rfl
        | some o => rw [h.gH b o w] at q; cases q
    · exact .inr (by rw [z]; exact h.new)
  · rcases r0.csn b z with q | q
    · exact .inl (by rw [← h.gc]; exact q)
    · right
      cases w : H1 b with
      | none => rfl
      | some o => rw [h.gH b o w] at q; cases q
  · by_cases hc : b ∈ ω0.cs
    · obtain ⟨m, q⟩ := r0.csp
      obtain ⟨vs, q⟩ := r0.cells.lstAt (a := b) (by rw [q, h.gc]; exact List.mem_append_left _ hc)
      exact ⟨_, q⟩
    · exact ⟨o, r0.base b o (h.gH b o hb) (by rw [h.gc]; exact hc)⟩
  · rcases z with z | z
    · exact r0.cells.out b hb z
    · exact h.nc (by rw [← z]; exact hb)
  · rcases z with z | z
    · exact r0.cells.trk b z
    · exact ⟨_, by rw [z]; exact h.at_⟩
  · obtain ⟨vs, ts, q1, q2, q3⟩ := r0.cells.at_ k b hb
    exact ⟨vs, ts, q1, q2, q3.mono e⟩
theorem si_ok (L : Lib p k S Φ) {sc : Scope} {fn : Str → Bool} {X : Cx} {cn : Str} (G : Good p k S.N sc fn X) (hn : PySem.W.nsIn p.K mainGlobals cn = some (some (.ref C))) : ∀ (its : List II) (ss : List Stmt), chkI S cn sc fn its ss = true → PSs X ss (tI X.K C a dx ω0 H1 its.length (evI Φ cn its))
  | [], [], _ => wPSs pss_nil fun D σ H ⟨g, ω, ρ, st, fv, ts, h, _, q⟩ => by
    obtain ⟨x, c, r⟩ := h.out (cn := cn) (by rw [G.hK]; exact hn)
    exact q σ H _ x c r
  | [], _ :: _, h => Bool.noConfusion (show false = true from h)
  | .ex _ :: _, [], h => Bool.noConfusion (show false = true from h)
  | .at_ _ _ :: _, [], h => Bool.noConfusion (show false = true from h)
  | .ex e :: r, s :: ss, h => by
    rw [chkI, Bool.and_eq_true] at h
    obtain ⟨h1, h2⟩ := h
    cases q : asExp s with
    | none => rw [q] at h1; cases h1
    | some u =>
      obtain ⟨v, pos⟩ := u
      rw [q] at h1
      obtain rfl := asExp_eq q
      simp only [Bool.and_eq_true] at h1
      refine wPSs (pss_cons (ps_expr (soundE (m := .v true) (W := W0) L e G h1.1) (sws_expr h1.2)) (si_ok L G hn r ss h2)) fun D σ H ⟨g, ω, ρ, st, fv, ts, hI, hl, qq⟩ => ?_
      rw [evI] at qq
      refine ⟨g, ω, ρ, st, hI.rel, ?_⟩
      cases e1 : ev Φ e ρ st with
      | bad => rw [e1] at qq; exact qq.elim
      | exc x s => rw [e1] at qq; exact qq.elim
      | ok t s =>
        rw [e1] at qq
        intro x H' ω' y c _
        exact ⟨g, ω', ρ, s, fv, ts, hI.extE y c, by rw [List.length_cons] at hl; omega, qq⟩
  | .at_ x e :: r, s :: ss, h => by
    rw [chkI, Bool.and_eq_true] at h
    obtain ⟨h1, h2⟩ := h
    cases q : asFld s with
    | none => rw [q] at h1; cases h1
    | some u =>
      obtain ⟨o, y, v⟩ := u
      rw [q] at h1
      obtain ⟨p1, p2, rfl⟩ := asFld_eq q
      simp only [Bool.and_eq_true, decide_eq_true_eq] at h1
      obtain ⟨⟨⟨rfl, i1⟩, i2⟩, i3⟩ := h1
      obtain ⟨C', c1, c2, c3⟩ := L.cls cn y i2
      rw [hn] at c1
      cases c1
      refine wPSs (pss_cons (ps_fld (G.var i1) (soundE (m := .v false) (W := W0) L e G i3) sws_fld) (si_ok L G hn r ss h2)) fun D σ H ⟨g, ω, ρ, st, fv, ts, hI, hl, qq⟩ => ?_
      rw [evI] at qq
      refine ⟨g, ω, ρ, st, hI.rel, ?_⟩
      cases e1 : ev Φ e ρ st with
      | bad => rw [e1] at qq; exact qq.elim
      | exc x s => rw [e1] at qq; exact qq.elim
      | ok t s =>
        rw [e1] at qq
        have qq' : (match (if (fv.map (·.1)).contains y then R.bad else evI Φ cn r ρ s (fv.map (·.1) ++ [y]) (ts ++ [t])) with
          | .ok t st' => ∀ σ' H' ω', ExtE ω0 H1 ω' H' → CelOk X.K ω' st' H' → Rep X.K ω' H' (.ref a) t → D.nx σ' H'
          | _ => False) := qq
        cases hk : (fv.map (·.1)).contains y with
        | true => rw [hk, if_pos rfl] at qq'; exact qq'.elim
        | false =>
          rw [hk, if_neg Bool.false_ne_true] at qq'
          intro w H' ω' z c rp
          have hI' := hI.extE z c
          refine ⟨.ref a, hI'.slf, a, C, dx, fv, rfl, hI'.at_, by rw [G.hK]; exact c2, by rw [G.hK]; exact c3, by omega, ?_⟩
          rw [putF_new hk]
          refine ⟨_, ω', ρ, s, fv ++ [(y, w)], ts ++ [t], hI'.put rp.rep, ?_, ?_⟩
          · rw [List.length_cons] at hl
            rw [List.length_append]
            simp only [List.length_cons, List.length_nil]
            omega
          · rw [List.map_append]
            exact qq'
theorem Rel.any {x : Option V} (r : Rel K g ω ρ st σ H) : Rel K g ω (.emp :: ρ) st (x :: σ) H := by
  refine ⟨by simp [r.len], fun i t hi => ?_, fun i t hi => ?_, fun i j t u b hi hj h1 h2 => ?_, r.cells, r.base, r.sub, r.new, r.csp, r.csn, r.cs0⟩
  · cases i with
    | zero => cases hi
    | succ i => exact r.val i t hi
  · cases i with
    | zero => cases hi
    | succ i => exact r.own i t hi
  · cases i with
    | zero => cases hi
    | succ i => cases j with
      | zero => cases hj
      | succ j => exact congrArg Nat.succ (r.sep i j t u b hi hj h1 h2)
theorem spI_mono {cn : Str} {φ ψ : List PV → Cel → R PV} (h : ∀ ts st t st', φ ts st = .ok t st' → ψ ts st = .ok t st') : ∀ vs H Q E, spI K cn φ vs H Q E → spI K cn ψ vs H Q E := by
  rintro vs H Q E ⟨a, C, dx, vs', H1, ω, st, ts, e1, e2, e3, e4, e5, e6, r, c, q⟩
  refine ⟨a, C, dx, vs', H1, ω, st, ts, e1, e2, e3, e4, e5, e6, r, c, ?_⟩
  cases e : φ ts st with
  | ok t st' => rw [e] at q; rw [h _ _ _ _ e]; exact q
  | exc x s => rw [e] at q; exact q.elim
  | bad => rw [e] at q; exact q.elim
theorem init_ok (L : Lib p k S Φ) {cn x qual : Str} {s : Stmt} {f : Addr} {fd : FuncData} {ps : List Str} {its : List II} {ar n : Nat} {φ : List PV → Cel → R PV} (Fu : Fun p.K x qual s f fd) (Sc : FnScope S.N ps (defScope s))
    (hb : ∀ (kV doc pm : Value) (an : Option Addr) (cdv ct : Value) (us : List Value), us.length = ps.length → bindArgs (PySem.W.fnOf x qual (defArgs s) (defBody s) (defScope s) .none kV doc pm an cdv ct) ⟨us, []⟩ = pure (ps.zip us))
    (hc : chkI S cn (defScope s) (fun _ => true) its (defBody s) = true) (hi : its.length < 1000) (h2 : ar = ps.length) (h3 : n = S.N.length) (h4 : ps.length ≤ S.N.length)
    (hφ : ∀ ts st t st', φ ts st = .ok t st' → runI Φ cn ar n its ts st = .ok t st') : FnG p (k + 1) f (spI p.K cn φ) := by
  intro A outer sh H us vs Q E hroom hg e0 rv h
  obtain ⟨oc, od, kV, doc, pm, an, cdv, ct, osl, rfl, lk, hcd⟩ := Fu.ex
  obtain ⟨a, C, dx, vs', H1, ω, st, ts, rfl, hn, ha, hd, hne, rfl, r, c, q⟩ := spI_mono hφ vs H Q E h
  unfold runI at q
  by_cases hl : ts.length + 1 = ar
  rotate_left
  · rw [if_neg hl] at q; exact q.elim
  rw [if_pos hl] at q
  have hu : us.length = ps.length := by rw [← rv.length, List.length_cons, r.length, hl, h2]
  refine StX.run_bnd (N := S.N) (ps := ps) lk hcd Sc hroom e0 (G := fun ws H2 => ws = V.ref a :: vs' ∧ H2 = upd (upd H1 dx (.own a)) a (.ins C dx [])) ?_ fun s2 H2 ws gx hrm => ?_
  · intro A' Ex Q' kk
    rw [hb kV doc pm an cdv ct us hu]
    exact wpAny_pure (kk sh _ _ us e0 Un.refl rfl (fun _ _ z => z) rv (by rw [rv.length, hu]) ⟨rfl, rfl⟩)
  · obtain ⟨rfl, rfl⟩ := gx
    have G : Good p k S.N (defScope s) (fun _ => true) (cxOf CX0 p.P p.w p.K p.mg p.base S.N qual (defScope s) f cdv A outer s2 (upd (upd H1 dx (.own a)) a (.ins C dx [])) E).nox :=
      ⟨rfl, rfl, rfl, rfl, rfl, rfl, Sc.nd, rfl, rfl, rfl, hrm, PassesOwn.never, hg⟩
    have ha2 : upd H1 dx (.own a) a = none := by rw [upd_ne (Ne.symm hne)]; exact ha
    have w1 : Grow ω H1 ω (upd H1 dx (.own a)) := Grow.upd hd
    have w2 : Grow ω (upd H1 dx (.own a)) ω (upd (upd H1 dx (.own a)) a (.ins C dx [])) := Grow.upd ha2
    have c2 := (c.grow w1).grow w2
    have r2 := (r.mono w1.ext).mono w2.ext
    have nz : S.N.length = S.N.tail.length + 1 := by
      have : 1 ≤ S.N.length := by omega
      rw [List.length_tail]; omega
    have rel := rel_start (N := S.N.tail) r2 c2 (by rw [List.length_tail]; omega)
    have es : start S.N (V.ref a :: vs') = some (V.ref a) :: start S.N.tail vs' := by
      unfold L2.start
      rw [nz, List.map_cons, List.length_cons, List.cons_append]
      congr 3
      omega
    refine ⟨_, (si_ok (C := C) (a := a) (dx := dx) (ω0 := ω) (H1 := H1) L G hn its _ hc).nox, ⟨ω.S, _, ω.cs⟩, ω, .emp :: initE S.N.tail.length ts, st, [], [], ⟨?_, rfl, rfl, fun b o z => w2.keep b o (w1.keep b o z), ha, ?_, upd_same, upd_same, fun z => ?_, fun z => ?_, .nil⟩, by simpa using hi, ?_⟩
    · rw [es]
      exact rel.any
    · rw [es]; rfl
    · obtain ⟨o, z⟩ := c.trk a z
      rw [ha] at z; cases z
    · obtain ⟨o, z⟩ := c.lstAt z
      rw [ha] at z; cases z
    · have en : n - 1 = S.N.tail.length := by rw [h3, nz]; rfl
      rw [en] at q
      rw [List.map_nil]
      revert q
      cases evI Φ cn its (.emp :: initE S.N.tail.length ts) st [] [] with
      | ok t st' => exact fun q σ' H' ω' y c rp => q H' ω' y c rp
      | exc x s => exact fun q => q
      | bad => exact fun q => q
theorem perm_vals {vs : List V} {us : List Value} (r : Vals vs us) : ∀ {pm : List Nat} {ws : List V}, permA vs pm = some ws → ∃ xs, permA us pm = some xs ∧ Vals ws xs
  | [], _, h => by cases h; exact ⟨[], rfl, .nil⟩
  | i :: pm, ws, h => by
    unfold permA at h
    split at h
    · rename_i t ut e1 e2
      cases h
      obtain ⟨v, f1, f2⟩ := r.get e1
      obtain ⟨ws, g1, g2⟩ := perm_vals r e2
      refine ⟨v :: ws, ?_, .cons f2 g2⟩
      unfold permA
      rw [f1, g1]
    · cases h
theorem def_okK (L : Lib p k S Φ) (F : Nat) {x qual : Str} {s : Stmt} {f : Addr} {fd : FuncData} {ps ks : List Str} {pm0 : List Nat} {d : Fn} {φ : List PV → Cel → R PV} (Fu : Fun p.K x qual s f fd) (Sc : FnScope S.N ps (defScope s))
    (hb : ∀ (kV doc pm : Value) (an : Option Addr) (cdv ct : Value) (us ws : List Value), us.length = ks.length → permA us pm0 = some ws → bindArgs (PySem.W.fnOf x qual (defArgs s) (defBody s) (defScope s) .none kV doc pm an cdv ct) ⟨[], ks.zip us⟩ = pure (ps.zip ws))
    (hc : chkSs S false (defScope s) (fun _ => true) d.body (defBody s) = true) (h1 : d.star = false) (h2 : d.ar = ps.length) (h3 : d.n = S.N.length) (h4 : ps.length ≤ S.N.length)
    (hφ : ∀ ts st t st', φ ts st = .ok t st' → run Φ F d ts st = .ok t st') : FnK p (k + 1) f ks pm0 (spOf p.K false φ) := by
  intro A outer sh H us vs ws Q E hroom hg e0 rv hlen hpm h
  obtain ⟨oc, od, kV, doc, pm, an, cdv, ct, osl, rfl, lk, hcd⟩ := Fu.ex
  obtain ⟨ω, st, ts, r, c, q⟩ := spOf_mono hφ ws H Q E h
  have hl : ts.length = d.ar := by
    cases e : decide (ts.length = d.ar) with
    | true => exact of_decide_eq_true e
    | false =>
      exfalso
      unfold run at q
      rw [h1, if_neg Bool.false_ne_true, if_neg (of_decide_eq_false e)] at q
      exact q
  obtain ⟨xs, hx, rx⟩ := perm_vals rv hpm
  refine run_body L (F := F) (fr := false) lk hcd Sc hroom hg e0 (ps := ps) (Gx := fun zs H2 => zs = ws ∧ H2 = H) ?_ hc (fun z => by cases z) fun H2 zs z => ?_
  · intro A' Ex Q' kk
    rw [hb kV doc pm an cdv ct us xs (by rw [← rv.length, hlen]) hx]
    exact wpAny_pure (kk sh H ws xs e0 Un.refl rfl (fun _ _ z => z) rx (by rw [r.length, hl, h2]) ⟨rfl, rfl⟩)
  · obtain ⟨rfl, rfl⟩ := z
    refine ⟨ω, st, ts, r, c, by rw [hl, h2]; exact h4, ?_⟩
    have e : run Φ F d ts st = fin (evSs Φ F d.body (initE S.N.length ts) st) := by
      unfold run
      rw [h1, if_neg Bool.false_ne_true, if_pos hl, h3]
    rw [e] at q
    exact q
end
end Ev
namespace Ev
open PySem PySem.Spec PyProof.Rows L2
/-! ### a law's end -/
/-- the abstract heap at the law's call: the script at most -/
def scriptH (a : Addr) (t : Option HO) : Hp := fun b => if b = a then t else none
theorem scriptH_at {a : Addr} {t : Option HO} : scriptH a t a = t := if_pos rfl
theorem scriptH_off {a b : Addr} {t : Option HO} (h : b ≠ a) : scriptH a t b = none := if_neg h
section
variable {P : Program} {w : World} {K : PySem.W.Frag} {mg mb : Str → Option Value} {k : Nat} {fa a : Addr} {s : Shared} {vs : List Value} {ns : List Int} {φ : List PV → Cel → R PV}
theorem repl_ints {ω : Wd} {H : Hp} : ∀ ns : List Int, RepL K ω H (ns.map V.int) (ns.map PV.int)
  | [] => .nil
  | n :: ns => .cons (.int n) (repl_ints ns)
theorem law_end (KX : K.In s.heap) (hns : s.heap.Ns mainGlobals mg) (hbn : s.heap.Ns builtinsNs mb) (hbb : ∀ x : Str, x ≠ "__name__" → mb x = bootBuiltins x) (hlim : s.heap.NoLimit) (hgen : s.gens = #[])
    (hobj : s.heap.get? a = some { cls := .type "list", data := .seq vs.toArray }) (hi : IntsAre vs ns) (hl : ns.length ≤ sizeLine) (hr : Room k callerA)
    (F : ∀ base : Heap, K.In base → base.Ns mainGlobals mg → FnG ⟨P, w, K, mg, base, true⟩ k fa (spOf K false φ)) (hφ : ∃ st', φ [.rol (ns.map .int)] [] = .ok (.bl true) st') :
    codeAny (model P w) callerA (.call (.ref fa) ⟨[.ref a], []⟩) (fun r s' => r = .ok (.ret (.bool true)) ∧ OldK s.heap s'.heap ∧ s'.os = s.os ∧ AllBare s'.gens) s := by
  obtain ⟨stF, hφ⟩ := hφ
  have rints := vals_ints hi
  have il := hi.length
  -- what is tracked
  obtain ⟨t, ht1, ht2, ht3⟩ : ∃ t : Option HO, (t = none ∨ ∃ ob us, t = some (.frz ob (.lst us))) ∧ (HOk P w (scriptH a t) s.heap ∧ RoL K ⟨fun _ => False, []⟩ (scriptH a t) a (ns.map V.int)) ∧ (t ≠ none → K.lookup a = none) := by
    cases hk : K.lookup a with
    | some o =>
      have e := (KX a o hk).symm.trans hobj
      cases e
      refine ⟨none, .inl rfl, ⟨fun b u z => ?_, .inr (.inr ⟨_, vs.toArray, _, hk, rfl, rfl, rfl, by rw [List.size_toArray, il]; exact hl, by simpa using rints⟩)⟩, fun z => absurd rfl z⟩
      unfold scriptH at z
      split at z <;> cases z
    | none =>
      refine ⟨some (.frz { cls := .type "list", data := .seq vs.toArray } (.lst (ns.map V.int))), .inr ⟨_, _, rfl⟩, ⟨fun b u z => ?_, .inr (.inl ⟨_, scriptH_at⟩)⟩, fun _ => rfl⟩
      unfold scriptH at z
      split at z
      · rename_i eb
        cases z
        rw [eb]
        exact ⟨hobj, by simpa using hl, vs, 0, rints, hobj⟩
      · cases z
  obtain ⟨hok, hro⟩ := ht2
  let H := scriptH a t
  have only : ∀ b u, H b = some u → b = a := fun b u z => by
    by_cases e : b = a
    · exact e
    · have : H b = none := scriptH_off e
      rw [this] at z; cases z
  have dicts : ∀ {b : Addr} {o : Obj} {es : Array DictEntry} {ep : Nat}, s.heap.get? b = some o → o.data = .dict es ep → H b = none := fun {b o es ep} e d => by
    cases q : H b with
    | none => rfl
    | some u =>
      have eb := only b u q
      rw [eb, hobj] at e
      cases e
      cases d
  have nss : ∀ {b : Addr} {m : Str → Option Value}, s.heap.Ns b m → (hidT s.heap H).Ns b m := fun z => by
    obtain ⟨o, es, ep, e, d, rest⟩ := z
    exact ⟨o, es, ep, hidT_get e (dicts e d), d, rest⟩
  have kin : K.In (hidT s.heap H) := fun b o e => hidT_get (KX b o e) (by
    cases q : H b with
    | none => rfl
    | some u =>
      have eb := only b u q
      subst eb
      rw [ht3 (by intro z; have : H b = t := scriptH_at; rw [z, q] at this; cases this)] at e
      cases e)
  obtain ⟨mc, lim1, lim2⟩ := hlim
  have md : Mod K mg (hidT s.heap H) := ⟨kin, nss hns, ⟨mb, nss hbn, hbb⟩, ⟨mc, nss lim1, lim2⟩⟩
  have e0 : Env0 P w K mg (hidT s.heap H) callerA [] s H := ⟨rfl, md, fun _ _ e => of_hidT e, Nat.le_of_eq (hidT_size _ _), trivial, fun b z => (by cases z), hok, .of_eq hgen⟩
  have prom : spOf K false φ [.ref a] H (fun v _ => v = .bl true) E0 := by
    refine ⟨⟨fun _ => False, []⟩, [], [.rol (ns.map .int)], .cons (.rol hro (repl_ints ns)) .nil, ⟨rfl, List.nodup_nil, fun b z => (by cases z), fun b z => z.elim, fun k b z => (by simp at z)⟩, ?_⟩
    rw [hφ]
    intro v H' ω' _ _ rp
    simp only [Bool.false_eq_true, if_false] at rp
    cases rp
    rfl
  refine codeAny_mono (F _ kin (nss hns) callerA [] s H [.ref a] [.ref a] _ _ hr (fun _ => rfl) e0 (.cons rfl .nil) prom) fun r s' z => ?_
  match r, z with
  | .error _, z => exact z.elim
  | .ok .next, z => exact z.elim
  | .ok .brk, z => exact z.elim
  | .ok .cont, z => exact z.elim
  | .ok (.ret u), z =>
    obtain ⟨v, H', os, bare, un, hok', rv, ev⟩ := z
    cases (show v = .bl true from ev)
    cases (show u = Value.bool true from rv)
    refine ⟨rfl, OldK.of_keep fun b o e => ?_, os, bare⟩
    cases q : H b with
    | none => exact un.keep b o e q (fun m => by cases m) (fun m => by cases m)
    | some x =>
      have eb := only b x q
      rcases ht1 with rfl | ⟨ob, us, rfl⟩
      · have : H b = none := by rw [eb]; exact scriptH_at
        rw [q] at this; cases this
      · have hb : H b = some (.frz ob (.lst us)) := by rw [eb]; exact scriptH_at
        have e1 := (hok b _ hb).1
        have e2 := (hok' b _ (un.frzs b ob _ hb)).1
        rw [e] at e1
        cases e1
        exact e2
end
theorem walkG {l : PySem.W.OpenLaw} {n k : Nat} {q : Program} {loose : List Str} {XP : (Str → Option Value) → Heap → Prop} {YP : World → Heap → Prop} {d : DefRec} {K : Params → PySem.W.Frag} {φ : List PV → Cel → R PV}
    (hn : l.most = some n) (hn2 : n ≤ sizeLine) (hdf : d.params.defaults = []) (hr : Room k callerA) (hY : ∀ (w : World) (h : Heap), YP w h → (K w.params).In h)
    (F : ∀ (w : World) (mg : Str → Option Value) (fa : Addr) (h : Heap), (K w.params).In h → h.Ns mainGlobals mg → mg d.name = some (.ref fa) → ∀ base : Heap, (K w.params).In base → base.Ns mainGlobals mg → FnG ⟨l.prog, w, K w.params, mg, base, true⟩ k fa (spOf (K w.params) false φ))
    (hφ : ∀ ns : List Int, ns.length ≤ n → ∃ st', φ [.rol (ns.map .int)] [] = .ok (.bl true) st') : PySem.W.WalkO q loose XP YP l.row.toRowW d [] (fun f vs => PySem.call f vs) := by
  refine Att.attach_call hn hdf fun w s₀ s₁ mg mb fa o pm cd doc a vs ns G Y ho hd hcd hmg hobj hints hlen hg => ?_
  exact law_end (hY w _ Y) G.T.g G.T.b G.T.builtins G.T.nolimit hg hobj hints (Nat.le_trans hlen hn2) hr (F w mg fa _ (hY w _ Y) G.T.g hmg) (hφ ns hlen)
end Ev
namespace Ev
open PySem L2
/-! ### a whole program: its defs, run with a call depth -/
structure DefD where
  nm : Str
  ps : List Str
  pv : Option Str := none
  N : List Str
  fr : Bool := false
  rf : Bool := false
  gen : Bool := false
  kd : Nat := 0
  cls : Str := ""
  qn : Str := nm
  its : List II := []
  kw : List (List Str × List Nat) := []
  st : Stmt
  body : Ss := .nil
def fldI : List II → List Str
  | [] => []
  | .ex _ :: r => fldI r
  | .at_ x _ :: r => x :: fldI r
def DefD.fn (D : DefD) : Fn := ⟨D.ps.length, D.pv.isSome, D.N.length, D.body⟩
def DefD.all (D : DefD) : List Str := D.ps ++ D.pv.toList
/-- what the top has written beside the defs: a constant, or a table with text keys -/
structure GD where
  nm : Str
  v : Option PV := none
  tb : List (Str × PV) := []
def gphi (gs : List GD) (i : Nat) (args : List PV) (st : Cel) : R PV :=
  if i < 2000 then (match gs[i - 1000]?, args with
    | some ⟨_, some t, _⟩, [] => .ok t st
    | _, _ => .bad)
  else if i < 3000 then (match gs[i - 2000]?, args with
    | some ⟨_, none, T⟩, [.str x] => (match T.lookup x with
      | some t => .ok t st
      | none => .bad)
    | _, _ => .bad)
  else (match gs[i - 3000]?, args with
    | some ⟨_, none, T⟩, [.str x] => .ok (.bl (T.lookup x).isSome) st
    | _, _ => .bad)
def gkOf : Option GD → Bool
  | some ⟨_, some _, _⟩ => true
  | _ => false
def tkOf : Option GD → Bool
  | some ⟨_, none, _⟩ => true
  | _ => false
def knOf (q : Bool) : Option DefD → Bool
  | some D => D.kd == 0 && !D.gen && (q || D.rf)
  | none => false
def geOf : Option DefD → Bool
  | some D => D.kd == 0 && D.gen
  | none => false
def mtOf (q : Bool) : Option DefD → Bool
  | some D => D.kd == 1 && !D.gen && !D.fr && (q || D.rf)
  | none => false
def miOf : Option DefD → Bool
  | some D => D.kd == 2
  | none => false
def kwOf (q : Bool) (ks : List Str) (pm : List Nat) : Option DefD → Bool
  | some D => D.kd == 0 && !D.gen && !D.fr && (q || D.rf) && D.pv.isNone && D.kw.contains (ks, pm)
  | none => false
def flOf (ds : List DefD) (cn x : Str) : Bool := ds.any fun D => D.kd == 2 && decide (D.cls = cn) && (fldI D.its).contains x
def sxOf (ds : List DefD) (gs : List GD) (q : Bool) (N : List Str) : Sx where
  nm := fun i => ((ds[i]?).map (·.nm)).getD ""
  fr := fun i => ((ds[i]?).map (·.fr)).getD false
  kn := fun i => decide (i < 1000) && knOf q ds[i]?
  rp := q
  ge := fun i => decide (i < 1000) && geOf ds[i]?
  N := N
  gn := fun g => ((gs[g]?).map (·.nm)).getD ""
  gk := fun g => decide (g < 1000) && gkOf gs[g]?
  tk := fun g => decide (g < 1000) && tkOf gs[g]?
  cn := fun i => ((ds[i]?).map (·.cls)).getD ""
  mt := fun i => decide (i < 1000) && mtOf q ds[i]?
  mi := fun i => decide (i < 1000) && miOf ds[i]?
  fl := flOf ds
  kw := fun i ks pm => decide (i < 1000) && kwOf q ks pm ds[i]?
def runD (Φ : Nat → List PV → Cel → R PV) (F : Nat) (D : DefD) (args : List PV) (st : Cel) : R PV := if D.kd == 2 then runI Φ D.cls D.ps.length D.N.length D.its args st else run Φ F D.fn args st
def Phi (ds : List DefD) (gs : List GD) (F : Nat) : Nat → Nat → List PV → Cel → R PV
  | 0 => fun i args st => if i < 1000 then .bad else gphi gs i args st
  | n + 1 => fun i args st => if i < 1000 then (match ds[i]? with
    | some D => runD (Phi ds gs F n) F D args st
    | none => .bad) else gphi gs i args st
theorem Phi_g {ds : List DefD} {gs : List GD} {F n i : Nat} {args : List PV} {st : Cel} (h : ¬ i < 1000) : Phi ds gs F n i args st = gphi gs i args st := by
  cases n with
  | zero => exact if_neg h
  | succ n => exact if_neg h
theorem Phi_d {ds : List DefD} {gs : List GD} {F n i : Nat} {D : DefD} {args : List PV} {st : Cel} (h : ds[i]? = some D) (hi : i < 1000) (hk : (D.kd == 2) = false := by rfl) : Phi ds gs F (n + 1) i args st = run (Phi ds gs F n) F D.fn args st := by
  show (if i < 1000 then (match ds[i]? with
    | some D => runD (Phi ds gs F n) F D args st
    | none => .bad) else _) = _
  rw [if_pos hi, h]
  show runD (Phi ds gs F n) F D args st = _
  unfold runD
  rw [hk]
  rfl
theorem Phi_i {ds : List DefD} {gs : List GD} {F n i : Nat} {D : DefD} {args : List PV} {st : Cel} (h : ds[i]? = some D) (hi : i < 1000) (hk : (D.kd == 2) = true := by rfl) : Phi ds gs F (n + 1) i args st = runI (Phi ds gs F n) D.cls D.ps.length D.N.length D.its args st := by
  show (if i < 1000 then (match ds[i]? with
    | some D => runD (Phi ds gs F n) F D args st
    | none => .bad) else _) = _
  rw [if_pos hi, h]
  show runD (Phi ds gs F n) F D args st = _
  unfold runD
  rw [hk]
  rfl
def okD (ds : List DefD) (gs : List GD) (D : DefD) : Bool :=
  (if D.kd == 2 then chkI (sxOf ds gs false D.N) D.cls (defScope D.st) (fun _ => true) D.its (defBody D.st) && D.pv.isNone && !D.gen && decide (D.its.length < 1000) else if D.gen then chkG (sxOf ds gs false D.N) (defScope D.st) (fun _ => true) D.body (defBody D.st) && D.pv.isNone && !D.fr else chkSs (sxOf ds gs (!D.rf) D.N) D.fr (defScope D.st) (fun _ => true) D.body (defBody D.st)) && (!D.fr || (retOnly D.body && D.pv.isNone)) && decide (D.all.length ≤ D.N.length) &&
  decide ((defScope D.st).kind = .function) && !(defScope D.st).isCoroutine && decide ((defScope D.st).isGenerator = D.gen) && decide (D.N.Nodup) && decide (D.N.take D.all.length = D.all) &&
  D.all.all (fun x => decide ((defScope D.st).names.lookup x = some .local) || decide ((defScope D.st).names.lookup x = some .cell)) && (defScope D.st).names.all (fun y => decide (y.2 ≠ .free))
def KwOk (D : DefD) : List (List Str × List Nat) → Prop
  | [] => True
  | e :: r => (∀ (kV doc pm : Value) (an : Option Addr) (cdv ct : Value) (us ws : List Value), us.length = e.1.length → permA us e.2 = some ws → bindArgs (PySem.W.fnOf D.nm D.qn (defArgs D.st) (defBody D.st) (defScope D.st) .none kV doc pm an cdv ct) ⟨[], e.1.zip us⟩ = pure (D.ps.zip ws)) ∧ KwOk D r
def BindP (D : DefD) : Prop := match D.pv with
  | none => ∀ (kV doc pm : Value) (an : Option Addr) (cdv ct : Value) (us : List Value), us.length = D.ps.length → bindArgs (PySem.W.fnOf D.nm D.qn (defArgs D.st) (defBody D.st) (defScope D.st) .none kV doc pm an cdv ct) ⟨us, []⟩ = pure (D.ps.zip us)
  | some pv => ∀ (kV doc pm : Value) (an : Option Addr) (cdv ct : Value) (us rest : List Value), us.length = D.ps.length → bindArgs (PySem.W.fnOf D.nm D.qn (defArgs D.st) (defBody D.st) (defScope D.st) .none kV doc pm an cdv ct) ⟨us ++ rest, []⟩ = (newTuple rest >>= fun t => pure (D.ps.zip us ++ [(pv, t)]))
def BindOk (D : DefD) : Prop := BindP D ∧ KwOk D D.kw
theorem KwOk.get {D : DefD} {ks : List Str} {pm0 : List Nat} : ∀ {l : List (List Str × List Nat)}, KwOk D l → l.contains (ks, pm0) = true → ∀ (kV doc pm : Value) (an : Option Addr) (cdv ct : Value) (us ws : List Value), us.length = ks.length → permA us pm0 = some ws → bindArgs (PySem.W.fnOf D.nm D.qn (defArgs D.st) (defBody D.st) (defScope D.st) .none kV doc pm an cdv ct) ⟨[], ks.zip us⟩ = pure (D.ps.zip ws)
  | [], _, h => by cases h
  | e :: r, h, hc => by
    rw [List.contains_cons, Bool.or_eq_true] at hc
    rcases hc with hc | hc
    · have he := beq_iff_eq.mp hc
      rw [← he] at h
      exact h.1
    · exact KwOk.get h.2 hc
/-- what the top has written of a def -/
def NoAttrs (K : PySem.W.Frag) (C : Addr) : List Str → Prop
  | [] => True
  | x :: r => NoAttr K C x ∧ NoAttrs K C r
theorem NoAttrs.get {K : PySem.W.Frag} {C : Addr} {x : Str} : ∀ {l : List Str}, NoAttrs K C l → l.contains x = true → NoAttr K C x
  | [], _, h => by cases h
  | y :: r, h, hc => by
    rw [List.contains_cons, Bool.or_eq_true] at hc
    rcases hc with hc | hc
    · rw [beq_iff_eq.mp hc]; exact h.1
    · exact NoAttrs.get h.2 hc
def ToldK (K : PySem.W.Frag) (mg : Str → Option Value) (D : DefD) : Nat → Prop
  | 0 => ∃ f fd, mg D.nm = some (.ref f) ∧ PySem.W.keepIn K (.ref f) = true ∧ Fun K D.nm D.qn D.st f fd
  | 1 => ∃ C f fd, PySem.W.nsIn K mainGlobals D.cls = some (some (.ref C)) ∧ Cls K C ∧ Meth K C D.nm f ∧ Fun K D.nm D.qn D.st f fd
  | _ => ∃ C f fd, PySem.W.nsIn K mainGlobals D.cls = some (some (.ref C)) ∧ mg D.cls = some (.ref C) ∧ Cls K C ∧ Mk K C f ∧ NoAttrs K C (fldI D.its) ∧ Fun K D.nm D.qn D.st f fd
def Told (K : PySem.W.Frag) (mg : Str → Option Value) (D : DefD) : Prop := ToldK K mg D D.kd
theorem Told.k0 {K : PySem.W.Frag} {mg : Str → Option Value} {D : DefD} (h : Told K mg D) (hk : (D.kd == 0) = true) : ∃ f fd, mg D.nm = some (.ref f) ∧ PySem.W.keepIn K (.ref f) = true ∧ Fun K D.nm D.qn D.st f fd := by
  unfold Told at h
  rw [beq_iff_eq.mp hk] at h
  exact h
theorem Told.k1 {K : PySem.W.Frag} {mg : Str → Option Value} {D : DefD} (h : Told K mg D) (hk : (D.kd == 1) = true) : ∃ C f fd, PySem.W.nsIn K mainGlobals D.cls = some (some (.ref C)) ∧ Cls K C ∧ Meth K C D.nm f ∧ Fun K D.nm D.qn D.st f fd := by
  unfold Told at h
  rw [beq_iff_eq.mp hk] at h
  exact h
theorem Told.k2 {K : PySem.W.Frag} {mg : Str → Option Value} {D : DefD} (h : Told K mg D) (hk : (D.kd == 2) = true) : ∃ C f fd, PySem.W.nsIn K mainGlobals D.cls = some (some (.ref C)) ∧ mg D.cls = some (.ref C) ∧ Cls K C ∧ Mk K C f ∧ NoAttrs K C (fldI D.its) ∧ Fun K D.nm D.qn D.st f fd := by
  unfold Told at h
  rw [beq_iff_eq.mp hk] at h
  exact h
theorem kd_ne {n m k : Nat} (h : (n == m) = true) (hk : (m == k) = false) : (n == k) = false := by rw [beq_iff_eq.mp h]; exact hk
def AllP (P : DefD → Prop) : List DefD → Prop
  | [] => True
  | D :: r => P D ∧ AllP P r
theorem AllP.get {P : DefD → Prop} : ∀ {ds : List DefD}, AllP P ds → ∀ {i : Nat} {D : DefD}, ds[i]? = some D → P D
  | [], _, _, _, e => by cases e
  | D :: r, h, 0, _, e => by simp at e; subst e; exact h.1
  | D :: r, h, i + 1, _, e => AllP.get h.2 (i := i) (by simpa using e)
theorem scope_of {ds : List DefD} {gs : List GD} {D : DefD} (h : okD ds gs D = true) : (D.gen = false → FnScope D.N D.all (defScope D.st)) ∧ (D.gen = true → GScope D.N D.all (defScope D.st)) := by
  unfold okD at h
  rw [Bool.and_eq_true, Bool.and_eq_true, Bool.and_eq_true, Bool.and_eq_true, Bool.and_eq_true, Bool.and_eq_true, Bool.and_eq_true, Bool.and_eq_true, Bool.and_eq_true] at h
  simp only [decide_eq_true_eq, Bool.not_eq_true', List.all_eq_true, Bool.or_eq_true] at h
  obtain ⟨⟨⟨⟨⟨⟨⟨⟨⟨h0, h1⟩, h2⟩, h3⟩, h4⟩, h5⟩, h6⟩, h7⟩, h8⟩, h9⟩ := h
  exact ⟨fun z => ⟨h3, h4, h5.trans z, h6, h7, h8, h9⟩, fun z => ⟨h3, h4, h5.trans z, h6, h7, h8, h9⟩⟩
theorem told_gen {p : Pr} {k F : Nat} {ds : List DefD} {gs : List GD} {Φ : Nat → List PV → Cel → R PV} {D : DefD} {f : Addr} {fd : FuncData} (hq : p.gq = false) (L : ∀ N, Lib p k (sxOf ds gs false N) Φ) (Fu : Fun p.K D.nm D.qn D.st f fd) (h : okD ds gs D = true) (hk : (D.kd == 2) = false) (hg : D.gen = true) : GFn p.P p.w p.K p.mg p.base (k + 1) f fd D.ps (spG p.K (run Φ F D.fn)) := by
  have Sc := (scope_of h).2 hg
  unfold okD at h
  rw [hk, if_neg Bool.false_ne_true, hg, if_pos rfl] at h
  simp only [Bool.and_eq_true, decide_eq_true_eq, Bool.or_eq_true, Bool.not_eq_true', Option.isNone_iff_eq_none] at h
  obtain ⟨⟨⟨⟨⟨⟨⟨⟨⟨⟨⟨h0, hp⟩, hf⟩, h1⟩, h2⟩, h3⟩, h4⟩, h5⟩, h6⟩, h7⟩, h8⟩, h9⟩ := h
  have ea : D.all = D.ps := by unfold DefD.all; rw [hp]; simp
  rw [ea] at Sc h2
  exact gen_ok (L D.N) F hq Fu Sc h0 (by unfold DefD.fn; rw [hp]; rfl) rfl rfl h2 (fun _ _ _ _ z => z)
theorem told_bind {K : PySem.W.Frag} {ds : List DefD} {gs : List GD} {D : DefD} {f : Addr} {fd : FuncData} (Fu : Fun K D.nm D.qn D.st f fd) (h : okD ds gs D = true) (hk : (D.kd == 2) = false) (hg : D.gen = true) (hb : BindOk D) : Binds K fd D.ps [] := by
  unfold okD at h
  rw [hk, if_neg Bool.false_ne_true, hg, if_pos rfl] at h
  simp only [Bool.and_eq_true, Option.isNone_iff_eq_none] at h
  have hp := h.1.1.1.1.1.1.1.1.1.1.2
  replace hb := hb.1
  unfold BindP at hb
  rw [hp] at hb
  obtain ⟨oc, od, kV, doc, pm, an, cdv, ct, osl, rfl, lk, hcd⟩ := Fu.ex
  exact Binds.all fun us hl => hb kV doc pm an cdv ct us hl
theorem told_fn {p : Pr} {k F : Nat} {ds : List DefD} {gs : List GD} {Φ : Nat → List PV → Cel → R PV} {D : DefD} {f : Addr} {fd : FuncData} (L : ∀ N, Lib p k (sxOf ds gs (!D.rf) N) Φ) (Fu : Fun p.K D.nm D.qn D.st f fd) (h : okD ds gs D = true) (hk : (D.kd == 2) = false) (hg : D.gen = false) (hb : BindOk D) : FnG p (k + 1) f (spOf p.K D.fr (run Φ F D.fn)) := by
  have Sc := (scope_of h).1 hg
  unfold okD at h
  rw [hk, if_neg Bool.false_ne_true, hg, if_neg Bool.false_ne_true] at h
  simp only [Bool.and_eq_true, decide_eq_true_eq, Bool.or_eq_true, Bool.not_eq_true'] at h
  obtain ⟨⟨⟨⟨⟨⟨⟨⟨⟨h0, h1⟩, h2⟩, h3⟩, h4⟩, h5⟩, h6⟩, h7⟩, h8⟩, h9⟩ := h
  replace hb := hb.1
  unfold BindP at hb
  cases e : D.pv with
  | none =>
    rw [e] at hb
    have ea : D.all = D.ps := by unfold DefD.all; rw [e]; simp
    rw [ea] at Sc h2
    refine def_ok (L D.N) F Fu Sc hb h0 (fun z => ?_) (by unfold DefD.fn; rw [e]; rfl) rfl rfl h2 (fun _ _ _ _ z => z)
    rcases h1 with h1 | h1
    · rw [z] at h1; cases h1
    · exact h1.1
  | some pv =>
    rw [e] at hb
    have ea : D.all = D.ps ++ [pv] := by unfold DefD.all; rw [e]; rfl
    rw [ea] at Sc h2
    have ef : D.fr = false := by
      rcases h1 with h1 | h1
      · exact h1
      · rw [e] at h1; cases h1.2
    rw [ef] at h0 ⊢
    exact def_star (L D.N) F Fu Sc hb h0 (by unfold DefD.fn; rw [e]; rfl) rfl rfl (by show D.ps.length + 1 ≤ D.N.length; simpa using h2) (fun _ _ _ _ z => z)
theorem told_kw {p : Pr} {k F : Nat} {ds : List DefD} {gs : List GD} {Φ : Nat → List PV → Cel → R PV} {D : DefD} {f : Addr} {fd : FuncData} {ks : List Str} {pm : List Nat} (L : ∀ N, Lib p k (sxOf ds gs (!D.rf) N) Φ) (Fu : Fun p.K D.nm D.qn D.st f fd) (h : okD ds gs D = true) (hk : (D.kd == 2) = false) (hg : D.gen = false) (hf : D.fr = false) (e : D.pv = none) (hb : BindOk D) (hc : D.kw.contains (ks, pm) = true) : FnK p (k + 1) f ks pm (spOf p.K false (run Φ F D.fn)) := by
  have Sc := (scope_of h).1 hg
  unfold okD at h
  rw [hk, if_neg Bool.false_ne_true, hg, if_neg Bool.false_ne_true] at h
  simp only [Bool.and_eq_true, decide_eq_true_eq, Bool.or_eq_true, Bool.not_eq_true'] at h
  obtain ⟨⟨⟨⟨⟨⟨⟨⟨⟨h0, h1⟩, h2⟩, h3⟩, h4⟩, h5⟩, h6⟩, h7⟩, h8⟩, h9⟩ := h
  have ea : D.all = D.ps := by unfold DefD.all; rw [e]; simp
  rw [ea] at Sc h2
  rw [hf] at h0
  exact def_okK (L D.N) F Fu Sc (hb.2.get hc) h0 (by unfold DefD.fn; rw [e]; rfl) rfl rfl h2 (fun _ _ _ _ z => z)
theorem told_init {p : Pr} {k : Nat} {ds : List DefD} {gs : List GD} {Φ : Nat → List PV → Cel → R PV} {D : DefD} {f : Addr} {fd : FuncData} (L : ∀ N, Lib p k (sxOf ds gs false N) Φ) (Fu : Fun p.K D.nm D.qn D.st f fd) (h : okD ds gs D = true) (hk : (D.kd == 2) = true) (hb : BindOk D) : FnG p (k + 1) f (spI p.K D.cls (runI Φ D.cls D.ps.length D.N.length D.its)) := by
  have sc := scope_of h
  unfold okD at h
  rw [hk, if_pos rfl] at h
  simp only [Bool.and_eq_true, decide_eq_true_eq, Bool.or_eq_true, Bool.not_eq_true', Option.isNone_iff_eq_none] at h
  obtain ⟨⟨⟨⟨⟨⟨⟨⟨⟨⟨⟨⟨h0, hp⟩, hg⟩, hl⟩, h1⟩, h2⟩, h3⟩, h4⟩, h5⟩, h6⟩, h7⟩, h8⟩, h9⟩ := h
  have Sc := sc.1 hg
  have ea : D.all = D.ps := by unfold DefD.all; rw [hp]; simp
  rw [ea] at Sc h2
  have hb1 := hb.1
  unfold BindP at hb1
  rw [hp] at hb1
  exact init_ok (L D.N) Fu Sc hb1 h0 hl rfl rfl h2 (fun _ _ _ _ z => z)
/-! ### constants and tables of the top -/
def TbOk (K : PySem.W.Frag) (a : Addr) (T : List (Str × PV)) : Prop := ∀ x, ∃ r, PySem.W.nsIn K a x = some r ∧ r.isSome = (T.lookup x).isSome ∧ ∀ t, T.lookup x = some t → ∃ u v, r = some u ∧ RelV v u ∧ ∀ ω H, Rep K ω H v t
def CoOk (K : PySem.W.Frag) (u : Value) (t : PV) : Prop := ∃ v, RelV v u ∧ ∀ ω H, Rep K ω H v t
def ToldG (K : PySem.W.Frag) (w : World) (mg : Str → Option Value) : GD → Prop
  | ⟨nm, some t, _⟩ => ∃ u, mg nm = some u ∧ CoOk K u t
  | ⟨nm, none, T⟩ => ∃ a es n, mg nm = some (.ref a) ∧ KDict K w a es n ∧ TbOk K a T
def AllG (P : GD → Prop) : List GD → Prop
  | [] => True
  | D :: r => P D ∧ AllG P r
theorem AllG.get {P : GD → Prop} : ∀ {gs : List GD}, AllG P gs → ∀ {i : Nat} {D : GD}, gs[i]? = some D → P D
  | [], _, _, _, e => by cases e
  | D :: r, h, 0, _, e => by simp at e; subst e; exact h.1
  | D :: r, h, i + 1, _, e => AllG.get h.2 (i := i) (by simpa using e)
section
variable {K : PySem.W.Frag} {w : World}
theorem co_str {s : Str} {n : Nat} : CoOk K (.str s n) (.str s) := ⟨.str s, ⟨n, rfl⟩, fun _ _ => .str s⟩
theorem co_int {i : Int} {n : Nat} : CoOk K (.int i n) (.int i) := ⟨.int i, ⟨n, rfl⟩, fun _ _ => .int i⟩
theorem co_none : CoOk K .none .non := ⟨.non, rfl, fun _ _ => .non⟩
def CosOk (K : PySem.W.Frag) : List Value → List PV → Prop
  | [], [] => True
  | u :: us, t :: ts => CoOk K u t ∧ CosOk K us ts
  | _, _ => False
theorem cos_ok : ∀ {us : List Value} {ts : List PV}, CosOk K us ts → ∃ vs, Vals vs us ∧ ∀ ω H, RepL K ω H vs ts
  | [], [], _ => ⟨[], .nil, fun _ _ => .nil⟩
  | u :: us, t :: ts, h => by
    obtain ⟨v, r, p⟩ := h.1
    obtain ⟨vs, rs, ps⟩ := cos_ok h.2
    exact ⟨v :: vs, .cons r rs, fun ω H => .cons (p ω H) (ps ω H)⟩
  | [], _ :: _, h => h.elim
  | _ :: _, [], h => h.elim
theorem co_tup {a : Addr} {od : Option Addr} {its : Array Value} {n : Nat} {sl : Array (Option Value)} {ts : List PV} (l : K.lookup a = some ⟨.type "tuple", od, .seq its n, sl⟩) (hs : its.size ≤ sizeLine) (h : CosOk K its.toList ts) : CoOk K (.ref a) (.tup ts) := by
  obtain ⟨vs, rs, ps⟩ := cos_ok h
  exact ⟨.ref a, rfl, fun ω H => .tup (.inr ⟨_, its, n, l, rfl, rfl, hs, rs⟩) (ps ω H)⟩
def RowsOk (K : PySem.W.Frag) : List DictEntry → List (Str × PV) → Prop
  | [], [] => True
  | e :: es, t :: ts => (∃ n, e.key = .str t.1 n) ∧ CoOk K e.val t.2 ∧ RowsOk K es ts
  | _, _ => False
theorem rows_find {x : Str} : ∀ {es : List DictEntry} {T : List (Str × PV)}, RowsOk K es T →
    (es.any (·.refKey) = false) ∧ (∀ e, es.find? (·.key.isStr x) = some e → ∃ t, T.lookup x = some t ∧ CoOk K e.val t) ∧ (es.find? (·.key.isStr x) = none → T.lookup x = none)
  | [], [], _ => ⟨rfl, (fun e h => by cases h), fun _ => rfl⟩
  | e :: es, (k, v) :: T, h => by
    obtain ⟨⟨n, hk⟩, hv, hr⟩ := h
    obtain ⟨i1, i2, i3⟩ := rows_find (x := x) hr
    have hs : e.key.isStr x = (x == k) := by
      rw [hk]
      show (k == x) = (x == k)
      exact BEq.comm
    refine ⟨?_, fun e' h' => ?_, fun h' => ?_⟩
    · rw [List.any_cons, i1, Bool.or_false]
      unfold DictEntry.refKey
      rw [hk]
    · rw [List.find?_cons, hs] at h'
      rw [List.lookup_cons]
      cases q : x == k with
      | true => rw [q] at h'; cases h'; exact ⟨v, rfl, hv⟩
      | false => rw [q] at h'; exact i2 e' h'
    · rw [List.find?_cons, hs] at h'
      rw [List.lookup_cons]
      cases q : x == k with
      | true => rw [q] at h'; cases h'
      | false => rw [q] at h'; exact i3 h'
  | [], _ :: _, h => h.elim
  | _ :: _, [], h => h.elim
theorem tb_ok {a : Addr} {oc : Value} {od : Option Addr} {es : Array DictEntry} {n : Nat} {sl : Array (Option Value)} {T : List (Str × PV)} (l : K.lookup a = some ⟨oc, od, .dict es n, sl⟩) (h : RowsOk K es.toList T) : TbOk K a T := by
  intro x
  obtain ⟨i1, i2, i3⟩ := rows_find (x := x) h
  unfold PySem.W.nsIn
  rw [l]
  dsimp only
  cases q : es.toList.find? (·.key.isStr x) with
  | none => exact ⟨none, by dsimp only; rw [i1]; rfl, by rw [i3 q]; rfl, fun t ht => by rw [i3 q] at ht; cases ht⟩
  | some e =>
    obtain ⟨t, ht, v, r, p⟩ := i2 e q
    refine ⟨some e.val, rfl, by rw [ht]; rfl, fun t' ht' => ?_⟩
    rw [ht] at ht'
    cases ht'
    exact ⟨e.val, v, rfl, r, p⟩
theorem g_con {h : Heap} {mg : Str → Option Value} {nm : Str} {u : Value} {t : PV} (X : K.In h) (G : h.Ns mainGlobals mg) (a : PySem.W.nsIn K mainGlobals nm = some (some u)) (c : CoOk K u t) : ToldG K w mg { nm := nm, v := some t } := ⟨u, PySem.W.mg_of X G a, c⟩
theorem g_tab {h : Heap} {mg : Str → Option Value} {nm : Str} {d : Addr} {es : Array DictEntry} {n : Nat} {T : List (Str × PV)} (X : K.In h) (G : h.Ns mainGlobals mg) (a : PySem.W.nsIn K mainGlobals nm = some (some (.ref d))) (l : K.lookup d = some ⟨.type "dict", none, .dict es n, #[]⟩)
    (hk : PySem.W.KeysLit w.params es.toList) (hd : (d == sysModules) = false) (c : RowsOk K es.toList T) : ToldG K w mg { nm := nm, tb := T } := ⟨d, es, n, PySem.W.mg_of X G a, ⟨l, hk, hd⟩, tb_ok l c⟩
end
theorem lib_gc {p : Pr} {ds : List DefD} {gs : List GD} {F n : Nat} {q : Bool} {N : List Str} (hG : AllG (ToldG p.K p.w p.mg) gs) : ∀ g, (sxOf ds gs q N).gk g = true → ∃ u v t, p.mg ((sxOf ds gs q N).gn g) = some u ∧ RelV v u ∧ (∀ ω H, Rep p.K ω H v t) ∧ ∀ st, Phi ds gs F n (1000 + g) [] st = .ok t st := by
  intro g hg
  have hg' : (decide (g < 1000) && gkOf gs[g]?) = true := hg
  rw [Bool.and_eq_true, decide_eq_true_eq] at hg'
  cases q : gs[g]? with
  | none => rw [q] at hg'; cases hg'.2
  | some D =>
    obtain ⟨nm, ov, T⟩ := D
    cases ov with
    | none => rw [q] at hg'; cases hg'.2
    | some t =>
      obtain ⟨u, m, v, r, pp⟩ := hG.get q
      refine ⟨u, v, t, by show p.mg (((gs[g]?).map (·.nm)).getD "") = _; rw [q]; exact m, r, pp, fun st => ?_⟩
      rw [Phi_g (by omega)]
      unfold gphi
      rw [if_pos (by omega), show 1000 + g - 1000 = g by omega, q]
theorem lib_tb {p : Pr} {ds : List DefD} {gs : List GD} {F n : Nat} {q : Bool} {N : List Str} (hG : AllG (ToldG p.K p.w p.mg) gs) : ∀ g, (sxOf ds gs q N).tk g = true → ∃ (a : Addr) (es : Array DictEntry) (m : Nat) (T : List (Str × PV)), p.mg ((sxOf ds gs q N).gn g) = some (.ref a) ∧ KDict p.K p.w a es m ∧ TbOk p.K a T ∧
    (∀ ts st t st', Phi ds gs F n (2000 + g) ts st = .ok t st' → ∃ x, ts = [.str x] ∧ T.lookup x = some t ∧ st' = st) ∧ (∀ ts st t st', Phi ds gs F n (3000 + g) ts st = .ok t st' → ∃ x, ts = [.str x] ∧ t = .bl (T.lookup x).isSome ∧ st' = st) := by
  intro g hg
  have hg' : (decide (g < 1000) && tkOf gs[g]?) = true := hg
  rw [Bool.and_eq_true, decide_eq_true_eq] at hg'
  cases q : gs[g]? with
  | none => rw [q] at hg'; cases hg'.2
  | some D =>
    obtain ⟨nm, ov, T⟩ := D
    cases ov with
    | some t => rw [q] at hg'; cases hg'.2
    | none =>
      obtain ⟨a, es, m, m1, m2, m3⟩ := hG.get q
      refine ⟨a, es, m, T, by show p.mg (((gs[g]?).map (·.nm)).getD "") = _; rw [q]; exact m1, m2, m3, fun ts st t st' h => ?_, fun ts st t st' h => ?_⟩
      · rw [Phi_g (by omega)] at h
        unfold gphi at h
        rw [if_neg (by omega), if_pos (by omega), show 2000 + g - 2000 = g by omega, q] at h
        split at h
        · rename_i z; cases z
          split at h
          · rename_i z2; cases h; exact ⟨_, rfl, z2, rfl⟩
          · cases h
        · cases h
      · rw [Phi_g (by omega)] at h
        unfold gphi at h
        rw [if_neg (by omega), if_neg (by omega), show 3000 + g - 3000 = g by omega, q] at h
        split at h
        · rename_i z; cases z
          cases h; exact ⟨_, rfl, rfl, rfl⟩
        · cases h
theorem FnG.weak {p : Pr} {k : Nat} {f : Addr} {sp : Sp} {q q' : Bool} (F : FnG { p with gq := q } k f sp) (h : q = true → q' = true) : FnG { p with gq := q' } k f sp :=
  fun A outer s H us vs Q E hr hg e0 r z => F A outer s H us vs Q E hr (fun e => hg (h e)) e0 r z
theorem FnK.weak {p : Pr} {k : Nat} {f : Addr} {ks : List Str} {pm : List Nat} {sp : Sp} {q q' : Bool} (F : FnK { p with gq := q } k f ks pm sp) (h : q = true → q' = true) : FnK { p with gq := q' } k f ks pm sp :=
  fun A outer s H us vs ws Q E hr hg e0 r l m z => F A outer s H us vs ws Q E hr (fun e => hg (h e)) e0 r l m z
theorem lib_cls {K : PySem.W.Frag} {mg : Str → Option Value} : ∀ {ds : List DefD}, AllP (Told K mg) ds → ∀ cn x, flOf ds cn x = true → ∃ C, PySem.W.nsIn K mainGlobals cn = some (some (.ref C)) ∧ Cls K C ∧ NoAttr K C x
  | [], _, cn, x, h => by cases h
  | D :: ds, hT, cn, x, h => by
    unfold flOf at h
    rw [List.any_cons, Bool.or_eq_true] at h
    rcases h with h | h
    · simp only [Bool.and_eq_true, decide_eq_true_eq] at h
      obtain ⟨⟨hk, rfl⟩, hc⟩ := h
      obtain ⟨C, f, fd, h1, h2, h3, h4, h5, h6⟩ := hT.1.k2 hk
      exact ⟨C, h1, h3, h5.get hc⟩
    · exact lib_cls hT.2 cn x h
theorem lib_all {p : Pr} {ds : List DefD} {gs : List GD} (F : Nat) (hT : AllP (Told p.K p.mg) ds) (hG : AllG (ToldG p.K p.w p.mg) gs) (hB : AllP BindOk ds) (hC : AllP (fun D => okD ds gs D = true) ds) (bi : ∀ x ∈ biNames, p.mg x = none) : ∀ n q N, Lib { p with gq := q } (4 * n + 3) (sxOf ds gs q N) (Phi ds gs F n)
  | 0, q, N => by
    have bad : ∀ {i : Nat} {ts : List PV} {st : Cel}, i < 1000 → Phi ds gs F 0 i ts st = .bad := fun h => if_pos h
    refine ⟨fun i hi => ?_, bi, fun z => z, fun i hi => ?_, lib_gc (p := { p with gq := q }) hG, lib_tb (p := { p with gq := q }) hG, lib_cls hT, fun i hi => ?_, fun i hi => ?_, fun i ks pm hi => ?_⟩
    · have hi' : (decide (i < 1000) && knOf q ds[i]?) = true := hi
      rw [Bool.and_eq_true, decide_eq_true_eq] at hi'
      cases hD : ds[i]? with
      | none => rw [hD] at hi'; cases hi'.2
      | some D =>
        rw [hD] at hi'
        have hk := hi'.2
        unfold knOf at hk
        rw [Bool.and_eq_true, Bool.and_eq_true] at hk
        obtain ⟨f, fd, m, kp, Fu⟩ := (hT.get hD).k0 hk.1.1
        refine ⟨f, by show p.mg (((ds[i]?).map (·.nm)).getD "") = _; rw [hD]; exact m, kp, ?_⟩
        rintro A outer s H us vs Q E _ _ _ _ ⟨ω, st, ts, _, _, z⟩
        rw [bad hi'.1] at z
        exact z.elim
    · have hi' : (decide (i < 1000) && geOf ds[i]?) = true := hi
      rw [Bool.and_eq_true, decide_eq_true_eq] at hi'
      cases hD : ds[i]? with
      | none => rw [hD] at hi'; cases hi'.2
      | some D =>
        rw [hD] at hi'
        have hk := hi'.2
        unfold geOf at hk
        rw [Bool.and_eq_true] at hk
        obtain ⟨f, fd, m, kp, Fu⟩ := (hT.get hD).k0 hk.1
        have no : ∀ {vs H Q E}, ¬ spG p.K (Phi ds gs F 0 i) vs H Q E := by
          rintro vs H Q E ⟨ω, st, ts, _, _, z⟩
          rw [bad hi'.1] at z
          exact z
        exact ⟨f, fd, D.ps, 0, by show p.mg (((ds[i]?).map (·.nm)).getD "") = _; rw [hD]; exact m, kp, by omega, told_bind Fu (hC.get hD) (kd_ne hk.1 rfl) hk.2 (hB.get hD), ⟨fun vs H Q E z => (no z).elim, fun _ _ _ _ _ _ _ _ _ _ _ _ _ z => (no z).elim⟩⟩
    · have hi' : (decide (i < 1000) && mtOf q ds[i]?) = true := hi
      rw [Bool.and_eq_true, decide_eq_true_eq] at hi'
      cases hD : ds[i]? with
      | none => rw [hD] at hi'; cases hi'.2
      | some D =>
        rw [hD] at hi'
        have hk := hi'.2
        unfold mtOf at hk
        simp only [Bool.and_eq_true] at hk
        obtain ⟨C, f, fd, h1, h2, h3, Fu⟩ := (hT.get hD).k1 hk.1.1.1
        refine ⟨C, f, by show PySem.W.nsIn p.K mainGlobals (((ds[i]?).map (·.cls)).getD "") = _; rw [hD]; exact h1, h2, by show Meth p.K C (((ds[i]?).map (·.nm)).getD "") f; rw [hD]; exact h3, ?_⟩
        rintro A outer s H us vs Q E _ _ _ _ ⟨ω, st, ts, _, _, z⟩
        rw [bad hi'.1] at z
        exact z.elim
    · have hi' : (decide (i < 1000) && miOf ds[i]?) = true := hi
      rw [Bool.and_eq_true, decide_eq_true_eq] at hi'
      cases hD : ds[i]? with
      | none => rw [hD] at hi'; cases hi'.2
      | some D =>
        rw [hD] at hi'
        obtain ⟨C, f, fd, h1, h2, h3, h4, h5, Fu⟩ := (hT.get hD).k2 hi'.2
        refine ⟨C, f, 0, by show PySem.W.nsIn p.K mainGlobals (((ds[i]?).map (·.cls)).getD "") = _; rw [hD]; exact h1, by show p.mg (((ds[i]?).map (·.cls)).getD "") = _; rw [hD]; exact h2, h4, by omega, ?_⟩
        rintro A outer s H us vs Q E _ _ _ _ ⟨a, C, dx, vs', H1, ω, st, ts, _, _, _, _, _, _, _, _, z⟩
        rw [bad hi'.1] at z
        exact z.elim
    · have hi' : (decide (i < 1000) && kwOf q ks pm ds[i]?) = true := hi
      rw [Bool.and_eq_true, decide_eq_true_eq] at hi'
      cases hD : ds[i]? with
      | none => rw [hD] at hi'; cases hi'.2
      | some D =>
        rw [hD] at hi'
        have hk := hi'.2
        unfold kwOf at hk
        simp only [Bool.and_eq_true] at hk
        obtain ⟨f, fd, m, kp, Fu⟩ := (hT.get hD).k0 hk.1.1.1.1.1
        refine ⟨f, by show p.mg (((ds[i]?).map (·.nm)).getD "") = _; rw [hD]; exact m, kp, ?_⟩
        rintro A outer s H us vs ws Q E _ _ _ _ _ _ ⟨ω, st, ts, _, _, z⟩
        rw [bad hi'.1] at z
        exact z.elim
  | n + 1, q, N => by
    have run_eq : ∀ {i : Nat} {D : DefD}, i < 1000 → ds[i]? = some D → (D.kd == 2) = false → Phi ds gs F (n + 1) i = run (Phi ds gs F n) F D.fn := fun {i D} hi hD hk => by
      funext args st
      exact Phi_d hD hi hk
    have ini_eq : ∀ {i : Nat} {D : DefD}, i < 1000 → ds[i]? = some D → (D.kd == 2) = true → Phi ds gs F (n + 1) i = runI (Phi ds gs F n) D.cls D.ps.length D.N.length D.its := fun {i D} hi hD hk => by
      funext args st
      exact Phi_i hD hi hk
    refine ⟨fun i hi => ?_, bi, fun z => z, fun i hi => ?_, lib_gc (p := { p with gq := q }) hG, lib_tb (p := { p with gq := q }) hG, lib_cls hT, fun i hi => ?_, fun i hi => ?_, fun i ks pm hi => ?_⟩
    · have hi' : (decide (i < 1000) && knOf q ds[i]?) = true := hi
      rw [Bool.and_eq_true, decide_eq_true_eq] at hi'
      cases hD : ds[i]? with
      | none => rw [hD] at hi'; cases hi'.2
      | some D =>
        rw [hD] at hi'
        have hk := hi'.2
        unfold knOf at hk
        rw [Bool.and_eq_true, Bool.and_eq_true, Bool.not_eq_true', Bool.or_eq_true] at hk
        obtain ⟨f, fd, m, kp, Fu⟩ := (hT.get hD).k0 hk.1.1
        refine ⟨f, by show p.mg (((ds[i]?).map (·.nm)).getD "") = _; rw [hD]; exact m, kp, ?_⟩
        have e1 : (sxOf ds gs q N).fr i = D.fr := by show ((ds[i]?).map (·.fr)).getD false = _; rw [hD]; rfl
        have k2 := kd_ne (k := 2) hk.1.1 rfl
        rw [e1, run_eq hi'.1 hD k2]
        have base := told_fn (p := { p with gq := !D.rf }) (F := F) (fun N => lib_all F hT hG hB hC bi n (!D.rf) N) Fu (hC.get hD) k2 hk.1.2 (hB.get hD)
        refine FnG.weak (p := p) (base.mono (by omega)) fun z => ?_
        rcases hk.2 with h | h
        · exact h
        · rw [h] at z; cases z
    · have hi' : (decide (i < 1000) && geOf ds[i]?) = true := hi
      rw [Bool.and_eq_true, decide_eq_true_eq] at hi'
      cases hD : ds[i]? with
      | none => rw [hD] at hi'; cases hi'.2
      | some D =>
        rw [hD] at hi'
        have hk := hi'.2
        unfold geOf at hk
        rw [Bool.and_eq_true] at hk
        have k2 := kd_ne (k := 2) hk.1 rfl
        obtain ⟨f, fd, m, kp, Fu⟩ := (hT.get hD).k0 hk.1
        refine ⟨f, fd, D.ps, 4 * n + 3 + 1, by show p.mg (((ds[i]?).map (·.nm)).getD "") = _; rw [hD]; exact m, kp, by omega, told_bind Fu (hC.get hD) k2 hk.2 (hB.get hD), ?_⟩
        rw [run_eq hi'.1 hD k2]
        exact told_gen (p := { p with gq := false }) (F := F) rfl (fun N => lib_all F hT hG hB hC bi n false N) Fu (hC.get hD) k2 hk.2
    · have hi' : (decide (i < 1000) && mtOf q ds[i]?) = true := hi
      rw [Bool.and_eq_true, decide_eq_true_eq] at hi'
      cases hD : ds[i]? with
      | none => rw [hD] at hi'; cases hi'.2
      | some D =>
        rw [hD] at hi'
        have hk := hi'.2
        unfold mtOf at hk
        simp only [Bool.and_eq_true, Bool.not_eq_true', Bool.or_eq_true] at hk
        have k2 := kd_ne (k := 2) hk.1.1.1 rfl
        obtain ⟨C, f, fd, h1, h2, h3, Fu⟩ := (hT.get hD).k1 hk.1.1.1
        refine ⟨C, f, by show PySem.W.nsIn p.K mainGlobals (((ds[i]?).map (·.cls)).getD "") = _; rw [hD]; exact h1, h2, by show Meth p.K C (((ds[i]?).map (·.nm)).getD "") f; rw [hD]; exact h3, ?_⟩
        rw [run_eq hi'.1 hD k2]
        have base := told_fn (p := { p with gq := !D.rf }) (F := F) (fun N => lib_all F hT hG hB hC bi n (!D.rf) N) Fu (hC.get hD) k2 hk.1.1.2 (hB.get hD)
        rw [hk.1.2] at base
        refine FnG.weak (p := p) (base.mono (by omega)) fun z => ?_
        rcases hk.2 with h | h
        · exact h
        · rw [h] at z; cases z
    · have hi' : (decide (i < 1000) && miOf ds[i]?) = true := hi
      rw [Bool.and_eq_true, decide_eq_true_eq] at hi'
      cases hD : ds[i]? with
      | none => rw [hD] at hi'; cases hi'.2
      | some D =>
        rw [hD] at hi'
        obtain ⟨C, f, fd, h1, h2, h3, h4, h5, Fu⟩ := (hT.get hD).k2 hi'.2
        have ec : (sxOf ds gs q N).cn i = D.cls := by show ((ds[i]?).map (·.cls)).getD ("" : Str) = _; rw [hD]; rfl
        rw [ec]
        refine ⟨C, f, 4 * n + 3 + 1, h1, h2, h4, by omega, ?_⟩
        rw [ini_eq hi'.1 hD hi'.2]
        exact told_init (p := { p with gq := false }) (fun N => lib_all F hT hG hB hC bi n false N) Fu (hC.get hD) hi'.2 (hB.get hD)
    · have hi' : (decide (i < 1000) && kwOf q ks pm ds[i]?) = true := hi
      rw [Bool.and_eq_true, decide_eq_true_eq] at hi'
      cases hD : ds[i]? with
      | none => rw [hD] at hi'; cases hi'.2
      | some D =>
        rw [hD] at hi'
        have hk := hi'.2
        unfold kwOf at hk
        simp only [Bool.and_eq_true, Bool.not_eq_true', Bool.or_eq_true, Option.isNone_iff_eq_none] at hk
        obtain ⟨⟨⟨⟨⟨g1, g2⟩, g3⟩, g4⟩, g5⟩, g6⟩ := hk
        have k2 := kd_ne (k := 2) g1 rfl
        obtain ⟨f, fd, m, kp, Fu⟩ := (hT.get hD).k0 g1
        refine ⟨f, by show p.mg (((ds[i]?).map (·.nm)).getD "") = _; rw [hD]; exact m, kp, ?_⟩
        rw [run_eq hi'.1 hD k2]
        have base := told_kw (p := { p with gq := !D.rf }) (F := F) (fun N => lib_all F hT hG hB hC bi n (!D.rf) N) Fu (hC.get hD) k2 g2 g3 g5 (hB.get hD) g6
        refine FnK.weak (p := p) (base.mono (by omega)) fun z => ?_
        rcases g4 with h | h
        · exact h
        · rw [h] at z; cases z
/-- the law's def, told among the defs -/
theorem law_fn {p : Pr} {ds : List DefD} {gs : List GD} {F n i : Nat} {D : DefD} {fa : Addr} (hT : AllP (Told p.K p.mg) ds) (hG : AllG (ToldG p.K p.w p.mg) gs) (hB : AllP BindOk ds) (hC : AllP (fun D => okD ds gs D = true) ds) (bi : ∀ x ∈ biNames, p.mg x = none) (hi : i < 1000) (hD : ds[i]? = some D) (hf : D.fr = false) (hge : D.gen = false) (hk0 : (D.kd == 0) = true) (hm : p.mg D.nm = some (.ref fa)) :
    FnG { p with gq := true } (4 * n + 3) fa (spOf p.K false (Phi ds gs F n i)) := by
  obtain ⟨f, m, _, G⟩ := (lib_all F hT hG hB hC bi n true []).fn i (by show (decide (i < 1000) && knOf true ds[i]?) = true; rw [hD, Bool.and_eq_true, decide_eq_true_eq]; exact ⟨hi, by show (D.kd == 0 && !D.gen && (true || D.rf)) = true; rw [hk0, hge]; rfl⟩)
  have e0 : (sxOf ds gs true []).nm i = D.nm := by show ((ds[i]?).map (·.nm)).getD ("" : Str) = _; rw [hD]; rfl
  have e1 : (sxOf ds gs true []).fr i = D.fr := by show ((ds[i]?).map (·.fr)).getD false = _; rw [hD]; rfl
  rw [e0] at m
  have m' : p.mg D.nm = some (.ref f) := m
  rw [hm] at m'
  cases m'
  rw [e1, hf] at G
  exact G
theorem law_is {P : Program} {w : World} {K : PySem.W.Frag} {mg : Str → Option Value} {base : Heap} {ds : List DefD} {gs : List GD} {F n i : Nat} {D : DefD} {fa : Addr} (hT : AllP (Told K mg) ds) (hG : AllG (ToldG K w mg) gs) (hB : AllP BindOk ds) (hC : AllP (fun D => okD ds gs D = true) ds) (bi : ∀ x ∈ biNames, mg x = none) (hi : i < 1000) (hD : ds[i]? = some D) (hf : D.fr = false) (hge : D.gen = false) (hk0 : (D.kd == 0) = true) (hm : mg D.nm = some (.ref fa)) :
    FnG ⟨P, w, K, mg, base, true⟩ (4 * n + 3) fa (spOf K false (Phi ds gs F n i)) := law_fn (p := ⟨P, w, K, mg, base, true⟩) hT hG hB hC bi hi hD hf hge hk0 hm
theorem bi_of {K : PySem.W.Frag} {h : Heap} {mg : Str → Option Value} (X : K.In h) (G : h.Ns mainGlobals mg)
    (z0 : PySem.W.nsIn K mainGlobals "len" = some none) (z1 : PySem.W.nsIn K mainGlobals "int" = some none) (z2 : PySem.W.nsIn K mainGlobals "tuple" = some none) (z3 : PySem.W.nsIn K mainGlobals "list" = some none) (z4 : PySem.W.nsIn K mainGlobals "isinstance" = some none) (z5 : PySem.W.nsIn K mainGlobals "all" = some none) (z6 : PySem.W.nsIn K mainGlobals "range" = some none) (z7 : PySem.W.nsIn K mainGlobals "zip" = some none) (z8 : PySem.W.nsIn K mainGlobals "bool" = some none) (z9 : PySem.W.nsIn K mainGlobals "str" = some none) (z10 : PySem.W.nsIn K mainGlobals "sorted" = some none) (z11 : PySem.W.nsIn K mainGlobals "set" = some none) (z12 : PySem.W.nsIn K mainGlobals "dict" = some none) (z13 : PySem.W.nsIn K mainGlobals "repr" = some none) (z14 : PySem.W.nsIn K mainGlobals "enumerate" = some none) (z15 : PySem.W.nsIn K mainGlobals "any" = some none) (z16 : PySem.W.nsIn K mainGlobals "max" = some none) (z17 : PySem.W.nsIn K mainGlobals "min" = some none) (z18 : PySem.W.nsIn K mainGlobals "sum" = some none) : ∀ x ∈ biNames, mg x = none := by
  intro x hx
  unfold biNames at hx
  simp only [List.mem_cons, List.not_mem_nil, or_false] at hx
  rcases hx with rfl | rfl | rfl | rfl | rfl | rfl | rfl | rfl | rfl | rfl | rfl | rfl | rfl | rfl | rfl | rfl | rfl | rfl | rfl
  all_goals exact PySem.W.mg_none_of X G ‹_›
end Ev
namespace Ev
open PySem L2
/-! ### what a run ends in -/
def R.wp {α : Type} (r : R α) (Q : α → Cel → Prop) : Prop := match r with
  | .ok a st => Q a st
  | _ => False
theorem R.wp_congr {α : Type} {r r' : R α} {Q : α → Cel → Prop} (h : r = r') : r.wp Q = r'.wp Q := by rw [h]
theorem R.wp_ok {α : Type} (a : α) (st : Cel) (Q : α → Cel → Prop) : (R.ok a st).wp Q = Q a st := rfl
theorem R.wp_exc {α : Type} (e : EX) (st : Cel) (Q : α → Cel → Prop) : (R.exc e st : R α).wp Q = False := rfl
theorem R.wp_bad {α : Type} (Q : α → Cel → Prop) : (R.bad : R α).wp Q = False := rfl
theorem R.wp_bind {α β : Type} (r : R α) (f : α → Cel → R β) (Q : β → Cel → Prop) : (r.bind f).wp Q = r.wp fun a st => (f a st).wp Q := by cases r <;> rfl
theorem R.wp_noexc {α : Type} (r : R α) (Q : α → Cel → Prop) : r.noexc.wp Q = r.wp Q := by cases r <;> rfl
theorem R.wp_ite {α : Type} (c : Prop) [Decidable c] (a b : R α) (Q : α → Cel → Prop) : (if c then a else b).wp Q = ((c → a.wp Q) ∧ (¬ c → b.wp Q)) := by
  by_cases h : c <;> simp [h]
theorem R.wp_mono {α : Type} {r : R α} {Q Q' : α → Cel → Prop} (h : r.wp Q) (i : ∀ a st, Q a st → Q' a st) : r.wp Q' := by
  cases r with
  | ok a st => exact i a st h
  | exc e st => exact h
  | bad => exact h
theorem R.wp_eq {α : Type} {r : R α} {Q : α → Cel → Prop} (h : r.wp Q) : ∃ a st, r = .ok a st ∧ Q a st := by
  cases r with
  | ok a st => exact ⟨a, st, rfl, h⟩
  | exc e st => exact h.elim
  | bad => exact h.elim
def RS.wp (r : RS) (N : En → Cel → Prop) (T : PV → Cel → Prop) (B C : En → Cel → Prop) : Prop := match r with
  | .nx ρ st => N ρ st
  | .rt v st => T v st
  | .bk ρ st => B ρ st
  | .ct ρ st => C ρ st
  | _ => False
section
variable (N : En → Cel → Prop) (T : PV → Cel → Prop) (B C : En → Cel → Prop)
theorem RS.wp_congr {r r' : RS} {N : En → Cel → Prop} {T : PV → Cel → Prop} {B C : En → Cel → Prop} (h : r = r') : r.wp N T B C = r'.wp N T B C := by rw [h]
theorem RS.wp_nx (ρ : En) (st : Cel) : (RS.nx ρ st).wp N T B C = N ρ st := rfl
theorem RS.wp_rt (v : PV) (st : Cel) : (RS.rt v st).wp N T B C = T v st := rfl
theorem RS.wp_bk (ρ : En) (st : Cel) : (RS.bk ρ st).wp N T B C = B ρ st := rfl
theorem RS.wp_ct (ρ : En) (st : Cel) : (RS.ct ρ st).wp N T B C = C ρ st := rfl
theorem RS.wp_exc (e : EX) (ρ : En) (st : Cel) : (RS.exc e ρ st).wp N T B C = False := rfl
theorem RS.wp_bad : RS.bad.wp N T B C = False := rfl
theorem RS.wp_seq (r : RS) (f : En → Cel → RS) : (r.seq f).wp N T B C = r.wp (fun ρ st => (f ρ st).wp N T B C) T B C := by cases r <;> rfl
theorem RS.wp_then {α : Type} (r : R α) (ρ : En) (f : α → Cel → RS) : (r.then ρ f).wp N T B C = r.wp fun a st => (f a st).wp N T B C := by cases r <;> rfl
theorem RS.wp_ite (c : Prop) [Decidable c] (a b : RS) : (if c then a else b).wp N T B C = ((c → a.wp N T B C) ∧ (¬ c → b.wp N T B C)) := by
  by_cases h : c <;> simp [h]
theorem RS.wp_nextL (r : RS) (k : En → Cel → RS) : (nextL r k).wp N T B C = r.wp (fun ρ st => (k ρ st).wp N T B C) T N (fun ρ st => (k ρ st).wp N T B C) := by cases r <;> rfl
theorem wp_fin (r : RS) (Q : PV → Cel → Prop) : (fin r).wp Q = r.wp (fun _ st => Q .non st) Q (fun _ _ => False) (fun _ _ => False) := by cases r <;> rfl
end
theorem RS.wp_mono {r : RS} {N N' : En → Cel → Prop} {T T' : PV → Cel → Prop} {B B' C C' : En → Cel → Prop} (h : r.wp N T B C) (hN : ∀ ρ st, N ρ st → N' ρ st) (hT : ∀ v st, T v st → T' v st) (hB : ∀ ρ st, B ρ st → B' ρ st) (hC : ∀ ρ st, C ρ st → C' ρ st) : r.wp N' T' B' C' := by
  cases r with
  | nx ρ st => exact hN _ _ h
  | rt v st => exact hT _ _ h
  | bk ρ st => exact hB _ _ h
  | ct ρ st => exact hC _ _ h
  | exc e ρ st => exact h
  | bad => exact h
/-- a walk by what holds of the rest -/
theorem forL_wp {f : PV → En → Cel → RS} {xs : List PV} {ρ : En} {st : Cel} {N : En → Cel → Prop} {T : PV → Cel → Prop} {B C : En → Cel → Prop} (I : List PV → En → Cel → Prop) (h0 : I xs ρ st)
    (hs : ∀ x r ρ st, I (x :: r) ρ st → (f x ρ st).wp (I r) T N (I r)) (hN : ∀ ρ st, I [] ρ st → N ρ st) : (forL f xs ρ st).wp N T B C := by
  induction xs generalizing ρ st with
  | nil => exact hN _ _ h0
  | cons x xs ih =>
    rw [forL, RS.wp_nextL]
    exact RS.wp_mono (hs _ _ _ _ h0) (fun _ _ h => ih h) (fun _ _ h => h) (fun _ _ h => h) (fun _ _ h => ih h)
theorem compL_wp {f : PV → Cel → R (Option PV)} {xs : List PV} {st : Cel} {Q : List PV → Cel → Prop} (I : List PV → List PV → Cel → Prop) (h0 : I xs [] st)
    (hs : ∀ x r acc st, I (x :: r) acc st → (f x st).wp fun o st' => I r (acc ++ o.toList) st') (hQ : ∀ ys st, I [] ys st → Q ys st) : (compL f xs st).wp Q := by
  have key : ∀ (xs acc : List PV) (st : Cel), I xs acc st → (compL f xs st).wp fun ys st' => Q (acc ++ ys) st' := by
    intro xs
    induction xs with
    | nil => intro acc st h; rw [compL, R.wp_ok, List.append_nil]; exact hQ _ _ h
    | cons x xs ih =>
      intro acc st h
      obtain ⟨o, st', e, h'⟩ := R.wp_eq (hs _ _ _ _ h)
      rw [compL, e]
      show ((compL f xs st').bind _).wp _
      rw [R.wp_bind]
      refine R.wp_mono (ih _ _ h') fun ys st2 q => ?_
      rw [R.wp_ok]
      cases o with
      | none => simpa using q
      | some y => simpa using q
  simpa using key xs [] st h0
theorem compL_pure {f : PV → Cel → R (Option PV)} {st : Cel} (g : PV → Option PV) : ∀ {xs : List PV}, (∀ x ∈ xs, f x st = .ok (g x) st) → compL f xs st = .ok (xs.filterMap g) st
  | [], _ => rfl
  | x :: xs, h => by
    rw [compL, h x (List.mem_cons_self ..)]
    show (compL f xs st).bind _ = _
    rw [compL_pure g fun y hy => h y (List.mem_cons_of_mem _ hy), R.bind_ok, List.filterMap_cons]
    cases g x <;> rfl
theorem compL_map {f : PV → Cel → R (Option PV)} {st : Cel} (g : PV → PV) {xs : List PV} (h : ∀ x ∈ xs, f x st = .ok (some (g x)) st) : compL f xs st = .ok (xs.map g) st := by
  rw [compL_pure (fun x => some (g x)) h]; congr 1; exact congrFun (List.filterMap_eq_map (f := g)) xs
/-! ### the equations of the evaluator, for simp -/
def getV (o : Option Slot) (st : Cel) : R PV := match o with
  | some (.val v) => .ok v st
  | _ => .bad
@[simp] theorem getV_val (v : PV) (st : Cel) : getV (some (.val v)) st = .ok v st := rfl
def getB (o : Option Slot) (st : Cel) : R PV := match o with
  | some (.own v) => .ok v st
  | some (.val v) => .ok v st
  | _ => .bad
@[simp] theorem getB_val (v : PV) (st : Cel) : getB (some (.val v)) st = .ok v st := rfl
@[simp] theorem getB_own (v : PV) (st : Cel) : getB (some (.own v)) st = .ok v st := rfl
def ifR {α : Type} (x : PV) (a b : R α) : R α := match x with
  | .bl true => a
  | .bl false => b
  | _ => .bad
@[simp] theorem ifR_bl {α : Type} (c : Bool) (a b : R α) : ifR (.bl c) a b = if c then a else b := by cases c <;> rfl
@[simp] theorem ifR_int {α : Type} (c : Int) (a b : R α) : ifR (.int c) a b = .bad := rfl
section
variable (Φ : Nat → List PV → Cel → R PV) (F : Nat) (ρ : En) (st : Cel)
theorem ev_var (i : Nat) : ev Φ (.var i) ρ st = getV ρ[i]? st := rfl
theorem ev_bor (i : Nat) : ev Φ (.bor i) ρ st = getB ρ[i]? st := rfl
theorem ev_int (i : Int) : ev Φ (.int i) ρ st = .ok (.int i) st := rfl
theorem ev_str (i : Str) : ev Φ (.str i) ρ st = .ok (.str i) st := rfl
theorem ev_bl (i : Bool) : ev Φ (.bl i) ρ st = .ok (.bl i) st := rfl
theorem ev_non : ev Φ .non ρ st = .ok .non st := rfl
theorem ev_bin (op : BOp) (a b : C) : ev Φ (.bin op a b) ρ st = (ev Φ a ρ st).bind fun x st => (ev Φ b ρ st).bind fun y st => R.of (binV op x y) st := rfl
theorem ev_neg (a : C) : ev Φ (.neg a) ρ st = (ev Φ a ρ st).bind fun x st => R.of (negV x) st := rfl
theorem ev_not (a : C) : ev Φ (.not a) ρ st = (ev Φ a ρ st).bind fun x st => R.of (notV x) st := rfl
theorem ev_cmp (op : COp) (a b : C) : ev Φ (.cmp op a b) ρ st = (ev Φ a ρ st).bind fun x st => (ev Φ b ρ st).bind fun y st => R.of ((cmpV op x y).map .bl) st := rfl
theorem ev_and (a b : C) : ev Φ (.and a b) ρ st = (ev Φ a ρ st).bind fun x st => ifR x (ev Φ b ρ st) (.ok (.bl false) st) := by
  rw [ev]; congr
theorem ev_or (a b : C) : ev Φ (.or a b) ρ st = (ev Φ a ρ st).bind fun x st => ifR x (.ok (.bl true) st) (ev Φ b ρ st) := by
  rw [ev]; congr
theorem ev_ite (t a b : C) : ev Φ (.ite t a b) ρ st = (ev Φ t ρ st).bind fun x st => ifR x (ev Φ a ρ st) (ev Φ b ρ st) := by
  rw [ev]; congr
theorem ev_tup (es : Cs) : ev Φ (.tup es) ρ st = (evs Φ es ρ st).bind fun xs st => if szOk xs.length then .ok (.tup xs) st else .bad := rfl
theorem ev_lst (es : Cs) : ev Φ (.lst es) ρ st = (evs Φ es ρ st).bind fun xs st => if szOk xs.length then .ok (.lst xs) st else .bad := rfl
theorem ev_call (f : Nat) (es : Cs) : ev Φ (.call f es) ρ st = (evs Φ es ρ st).bind fun xs st => (Φ f xs st).noexc := rfl
theorem ev_len (a : C) : ev Φ (.len a) ρ st = (ev Φ a ρ st).bind fun x st => R.of (lenV x) st := rfl
theorem ev_toInt (a : C) : ev Φ (.toInt a) ρ st = (ev Φ a ρ st).bind fun x st => R.of (toIntV x) st := rfl
theorem ev_tupleOf (a : C) : ev Φ (.tupleOf a) ρ st = (ev Φ a ρ st).bind fun x st => R.of (tupleV x) st := rfl
theorem ev_listOf (a : C) : ev Φ (.listOf a) ρ st = (ev Φ a ρ st).bind fun x st => R.of (listV x) st := rfl
theorem ev_isa (a : C) (t : Ty) : ev Φ (.isa a t) ρ st = (ev Φ a ρ st).bind fun x st => R.of ((isaV x t).map .bl) st := rfl
theorem ev_all (a : C) : ev Φ (.all a) ρ st = (ev Φ a ρ st).bind fun x st => R.of (allV x) st := rfl
def isL : PV → Bool
  | .lst _ => true
  | _ => false
theorem ev_indexOf (a b : C) : ev Φ (.indexOf a b) ρ st = (ev Φ a ρ st).bind fun x st => if isL x then (ev Φ b ρ st).bind fun y st => R.of (indexV x y) st else .bad := by
  rw [ev]; congr; funext x st; cases x <;> rfl
theorem ev_ix (a i : C) : ev Φ (.ix a i) ρ st = (ev Φ a ρ st).bind fun x st => (ev Φ i ρ st).bind fun y st => R.of (ixV st x y) st := rfl
theorem ev_sl (a : C) (lo hi : Cs) : ev Φ (.sl a lo hi) ρ st = (ev Φ a ρ st).bind fun x st => (evo Φ lo ρ st).bind fun l st => (evo Φ hi ρ st).bind fun h st => R.of (slV x l h) st := rfl
theorem ev_comp (elt : C) (tg : List Nat) (it : C) (ifs : Cs) (own : List Nat) : ev Φ (.comp elt tg it ifs own) ρ st = (ev Φ it ρ st).bind fun iv st => (R.of (itemsOf iv) st).bind fun xs st => (compL (turnF Φ elt tg ifs own ρ) xs st).bind fun ys st => if szOk ys.length then .ok (.lst ys) st else .bad := by
  rw [ev]; congr; funext x st; cases itemsOf x <;> rfl
theorem turnF_eq (elt : C) (tg : List Nat) (ifs : Cs) (own : List Nat) (x : PV) : turnF Φ elt tg ifs own ρ x st = (R.of (assignT tg x (wipeE ρ own)) st).bind fun ρ1 st => (evt Φ ifs ρ1 st).bind fun b st => if b then (ev Φ elt ρ1 st).bind fun y st => .ok (some y) st else .ok none st := by
  unfold turnF; cases assignT tg x (wipeE ρ own) <;> rfl
theorem ev_rng1 (a : C) : ev Φ (.rng1 a) ρ st = (ev Φ a ρ st).bind fun x st => R.of (rng1V x) st := rfl
theorem ev_rng2 (a b : C) : ev Φ (.rng2 a b) ρ st = (ev Φ a ρ st).bind fun x st => (ev Φ b ρ st).bind fun y st => R.of (rng2V x y) st := rfl
theorem ev_zip2 (a b : C) : ev Φ (.zip2 a b) ρ st = (ev Φ a ρ st).bind fun x st => (ev Φ b ρ st).bind fun y st => R.of (zipV x y) st := rfl
theorem ev_zips (a b : C) : ev Φ (.zips a b) ρ st = (ev Φ a ρ st).bind fun x st => (ev Φ b ρ st).bind fun y st => R.of (zipsV x y) st := rfl
theorem ev_dkeys (a : C) : ev Φ (.dkeys a) ρ st = (ev Φ a ρ st).bind fun x st => R.of (dkeysV x) st := rfl
theorem ev_dgetT (a b : C) : ev Φ (.dgetT a b) ρ st = (ev Φ a ρ st).bind fun x st => (ev Φ b ρ st).bind fun y st => R.of (dgetTV x y) st := rfl
theorem ev_glist (f : Nat) (es : Cs) : ev Φ (.glist f es) ρ st = (evs Φ es ρ st).bind fun xs st => (Φ f xs st).noexc.bind fun x st => R.of (lstG x) st := rfl
theorem ev_dcomp2 (k1 k2 v : C) (tg : List Nat) (it : C) (tg2 : List Nat) (it2 : C) (own own2 : List Nat) : ev Φ (.dcomp2 k1 k2 v tg it tg2 it2 own own2) ρ st = (ev Φ it ρ st).bind fun iv st => (R.of (itemsOf iv) st).bind fun xs st => (flatL (turnD2 Φ k1 k2 v tg tg2 it2 own own2 ρ) xs st).bind fun ys st => R.of (dttV ys) st := by
  rw [ev]; congr; funext x st; cases itemsOf x <;> rfl
theorem turnD_eq (k1 k2 v : C) (tg : List Nat) (own : List Nat) (x : PV) : turnD Φ k1 k2 v tg own ρ x st = (R.of (assignT tg x (wipeE ρ own)) st).bind fun ρ1 st => (ev Φ k1 ρ1 st).bind fun a st => (ev Φ k2 ρ1 st).bind fun b st => (ev Φ v ρ1 st).bind fun z st => .ok (some (.tup [a, b, z])) st := by
  unfold turnD; cases assignT tg x (wipeE ρ own) <;> rfl
theorem turnD2_eq (k1 k2 v : C) (tg tg2 : List Nat) (it2 : C) (own own2 : List Nat) (x : PV) : turnD2 Φ k1 k2 v tg tg2 it2 own own2 ρ x st = (R.of (assignT tg x (wipeE ρ own)) st).bind fun ρ1 st => (ev Φ it2 ρ1 st).bind fun iv st => (R.of (itemsOf iv) st).bind fun ys st => compL (turnD Φ k1 k2 v tg2 own2 ρ1) ys st := by
  unfold turnD2; cases assignT tg x (wipeE ρ own) with
  | none => rfl
  | some ρ1 =>
    show (ev Φ it2 ρ1 st).bind _ = (ev Φ it2 ρ1 st).bind _
    congr; funext iv st; cases itemsOf iv <;> rfl
theorem ev_repr (a : C) : ev Φ (.repr a) ρ st = (ev Φ a ρ st).bind fun x st => R.of (reprV x) st := rfl
theorem ev_dct (a : Cs) : ev Φ (.dct a) ρ st = (evs Φ a ρ st).bind fun x st => R.of (dctV x) st := rfl
theorem ev_dget (a b : C) : ev Φ (.dget a b) ρ st = (ev Φ a ρ st).bind fun x st => (ev Φ b ρ st).bind fun y st => R.of (dgetV x y) st := rfl
theorem ev_any (a : C) : ev Φ (.any a) ρ st = (ev Φ a ρ st).bind fun x st => R.of (anyV x) st := rfl
theorem ev_str1 (a : C) : ev Φ (.str1 a) ρ st = (ev Φ a ρ st).bind fun x st => R.of (str1V x) st := rfl
def ifO {α : Type} (o : Option Bool) (a b : R α) : R α := match o with
  | some true => a
  | some false => b
  | none => .bad
@[simp] theorem ifO_some {α : Type} (c : Bool) (a b : R α) : ifO (some c) a b = if c then a else b := by cases c <;> rfl
theorem ev_chain (o1 o2 : COp) (a b c : C) : ev Φ (.chain o1 o2 a b c) ρ st = (ev Φ a ρ st).bind fun x st => (ev Φ b ρ st).bind fun y st => ifO (cmpV o1 x y) ((ev Φ c ρ st).bind fun z st => R.of ((cmpV o2 y z).map .bl) st) (.ok (.bl false) st) := by
  rw [ev]; congr
theorem ev_gc (g : Nat) : ev Φ (.gc g) ρ st = (Φ (1000 + g) [] st).noexc := rfl
theorem ev_kget (g : Nat) (k : C) : ev Φ (.kget g k) ρ st = (ev Φ k ρ st).bind fun x st => (Φ (2000 + g) [x] st).noexc := rfl
theorem ev_kin (neg : Bool) (g : Nat) (k : C) : ev Φ (.kin neg g k) ρ st = (ev Φ k ρ st).bind fun x st => (Φ (3000 + g) [x] st).noexc.bind fun b st => if neg then R.of (notV b) st else .ok b st := rfl
theorem ev_comp2 (elt : C) (tg : List Nat) (it : C) (tg2 : List Nat) (it2 : C) (ifs : Cs) (own own2 : List Nat) : ev Φ (.comp2 elt tg it tg2 it2 ifs own own2) ρ st = (ev Φ it ρ st).bind fun iv st => (R.of (itemsOf iv) st).bind fun xs st => (flatL (turn2 Φ elt tg tg2 it2 ifs own own2 ρ) xs st).bind fun ys st => if szOk ys.length then .ok (.lst ys) st else .bad := by
  rw [ev]; congr; funext x st; cases itemsOf x <;> rfl
theorem turn2_eq (elt : C) (tg tg2 : List Nat) (it2 : C) (ifs : Cs) (own own2 : List Nat) (x : PV) : turn2 Φ elt tg tg2 it2 ifs own own2 ρ x st = (R.of (assignT tg x (wipeE ρ own)) st).bind fun ρ1 st => (ev Φ it2 ρ1 st).bind fun iv st => (R.of (itemsOf iv) st).bind fun ys st => compL (turnF Φ elt tg2 ifs own2 ρ1) ys st := by
  unfold turn2; cases assignT tg x (wipeE ρ own) with
  | none => rfl
  | some ρ1 =>
    show (ev Φ it2 ρ1 st).bind _ = (ev Φ it2 ρ1 st).bind _
    congr; funext iv st; cases itemsOf iv <;> rfl
theorem ev_enum (a : C) : ev Φ (.enum a) ρ st = (ev Φ a ρ st).bind fun x st => R.of (enumV x) st := rfl
def isS : PV → Bool
  | .str _ => true
  | _ => false
@[simp] theorem isS_str (s : Str) : isS (.str s) = true := rfl
theorem ev_join (a b : C) : ev Φ (.join a b) ρ st = (ev Φ a ρ st).bind fun x st => if isS x then (ev Φ b ρ st).bind fun y st => R.of (joinV x y) st else .bad := by
  rw [ev]; congr; funext x st; cases x <;> rfl
theorem ev_fstr (es : Cs) : ev Φ (.fstr es) ρ st = (evj Φ es Str.empty ρ st).bind fun s st => .ok (.str s) st := rfl
theorem evj_nil (acc : Str) : evj Φ .nil acc ρ st = .ok acc st := rfl
theorem evj_cons (a : C) (r : Cs) (acc : Str) : evj Φ (.cons a r) acc ρ st = (ev Φ a ρ st).bind fun x st => (R.of (fmtV acc x) st).bind fun acc' st => evj Φ r acc' ρ st := by
  rw [evj]; congr; funext x st; cases fmtV acc x <;> rfl
def isD : PV → Bool
  | .dct _ _ => true
  | _ => false
theorem ev_dgetD (a b : C) : ev Φ (.dgetD a b) ρ st = (ev Φ a ρ st).bind fun x st => if isD x then (ev Φ b ρ st).bind fun y st => R.of (dgetN x y) st else .bad := by
  rw [ev]; congr; funext x st; cases x <;> rfl
theorem ev_cat (a b : C) : ev Φ (.cat a b) ρ st = (ev Φ a ρ st).bind fun x st => (ev Φ b ρ st).bind fun y st => R.of (catV x y) st := rfl
theorem ev_isa2 (a : C) (t u : Ty) : ev Φ (.isa2 a t u) ρ st = (ev Φ a ρ st).bind fun x st => R.of ((isa2V x t u).map .bl) st := rfl
theorem ev_revT (a : C) : ev Φ (.revT a) ρ st = (ev Φ a ρ st).bind fun x st => R.of (revTV x) st := rfl
theorem ev_rev (a : C) : ev Φ (.rev a) ρ st = (ev Φ a ρ st).bind fun x st => R.of (revV x) st := rfl
theorem ev_tupRng (a b : C) : ev Φ (.tupRng a b) ρ st = (ev Φ a ρ st).bind fun x st => (ev Φ b ρ st).bind fun y st => R.of (tupRngV x y) st := rfl
theorem ev_sset (a : C) : ev Φ (.sset a) ρ st = (ev Φ a ρ st).bind fun x st => R.of (ssetV x) st := rfl
theorem ev_sorted (a : C) : ev Φ (.sorted a) ρ st = (ev Φ a ρ st).bind fun x st => R.of (sortedV x) st := rfl
theorem evs_nil : evs Φ .nil ρ st = .ok [] st := rfl
theorem evs_cons (a : C) (r : Cs) : evs Φ (.cons a r) ρ st = (ev Φ a ρ st).bind fun x st => (evs Φ r ρ st).bind fun xs st => .ok (x :: xs) st := rfl
def starV : PV → Option (List PV)
  | .tup ys => some ys
  | .lst ys => some ys
  | _ => none
theorem evs_star (a : C) (r : Cs) : evs Φ (.star a r) ρ st = (ev Φ a ρ st).bind fun x st => (R.of (starV x) st).bind fun ys st => (evs Φ r ρ st).bind fun xs st => .ok (ys ++ xs) st := by
  rw [evs]; congr; funext x st; cases x <;> rfl
theorem evo_nil : evo Φ .nil ρ st = .ok none st := rfl
def oInt : PV → Option (Option Int)
  | .int i => some (some i)
  | _ => none
@[simp] theorem oInt_int (i : Int) : oInt (.int i) = some (some i) := rfl
theorem evo_cons (a : C) : evo Φ (.cons a .nil) ρ st = (ev Φ a ρ st).bind fun x st => R.of (oInt x) st := by
  rw [evo]; congr; funext x st; cases x <;> rfl
theorem evt_nil : evt Φ .nil ρ st = .ok true st := rfl
theorem evt_cons (a : C) : evt Φ (.cons a .nil) ρ st = (ev Φ a ρ st).bind fun x st => R.of (blV x) st := rfl
@[simp] theorem blV_bl (b : Bool) : blV (.bl b) = some b := rfl
/-! statements -/
def thenO (o : Option En) (st : Cel) : RS := match o with
  | some ρ1 => .nx ρ1 st
  | none => .bad
@[simp] theorem thenO_some (ρ1 : En) (st : Cel) : thenO (some ρ1) st = .nx ρ1 st := rfl
theorem evS_asg (tg : List Nat) (e : C) : evS Φ F (.asg tg e) ρ st = (ev Φ e ρ st).then ρ fun x st => thenO (assignT tg x ρ) st := by
  rw [evS]; congr
theorem evS_par (is : List Nat) (es : Cs) : evS Φ F (.par is es) ρ st = (evs Φ es ρ st).then ρ fun xs st => if xs.length = is.length then .nx ((is.zip xs).foldl (fun ρ p => set1 ρ p.1 p.2) ρ) st else .bad := rfl
def lstV : PV → Option (List PV)
  | .lst xs => some xs
  | _ => none
@[simp] theorem lstV_lst (xs : List PV) : lstV (.lst xs) = some xs := rfl
def thenL (o : Option (List PV)) (k : List PV → RS) : RS := match o with
  | some xs => k xs
  | none => .bad
@[simp] theorem thenL_some (xs : List PV) (k : List PV → RS) : thenL (some xs) k = k xs := rfl
theorem evS_asgO (i : Nat) (e : C) : evS Φ F (.asgO i e) ρ st = (ev Φ e ρ st).then ρ fun x st => thenL (lstV x) fun xs => .nx (ρ.set i (.own (.lst xs))) st := by
  rw [evS]; congr; funext x st; cases x <;> rfl
theorem evS_asgC (i : Nat) (e : C) : evS Φ F (.asgC i e) ρ st = (ev Φ e ρ st).then ρ fun x st => thenL (lstV x) fun xs => .nx (ρ.set i (.val (.cell st.length))) (st ++ [.lst xs]) := by
  rw [evS]; congr; funext x st; cases x <;> rfl
def setCel (st : Cel) (x o j : PV) : Option Cel := match o, j with
  | .cell k, .int j => (match st[k]? with
    | some (.lst xs) => (match ixP xs.length j with
      | some n => some (st.set k (.lst (xs.set n x)))
      | none => none)
    | _ => none)
  | _, _ => none
def thenS (o : Option Cel) (ρ : En) : RS := match o with
  | some st => .nx ρ st
  | none => .bad
@[simp] theorem thenS_some (st : Cel) (ρ : En) : thenS (some st) ρ = .nx ρ st := rfl
theorem evS_setI (a i e : C) : evS Φ F (.setI a i e) ρ st = (ev Φ e ρ st).then ρ fun x st => (ev Φ a ρ st).then ρ fun o st => (ev Φ i ρ st).then ρ fun j st => thenS (setCel st x o j) ρ := by
  rw [evS]; congr; funext x st; congr; funext o st; congr; funext j st
  unfold setCel
  cases o <;> try rfl
  cases j <;> try rfl
  rename_i k j
  show (match st[k]? with
      | some (.lst xs) => (match ixP xs.length j with
        | some n => RS.nx ρ (st.set k (.lst (xs.set n x)))
        | none => .bad)
      | _ => .bad) = thenS (match st[k]? with
    | some (.lst xs) => (match ixP xs.length j with
      | some n => some (st.set k (.lst (xs.set n x)))
      | none => none)
    | _ => none) ρ
  cases st[k]? with
  | none => rfl
  | some v =>
    cases v <;> try rfl
    rename_i xs
    show (match ixP xs.length j with
        | some n => RS.nx ρ (st.set k (.lst (xs.set n x)))
        | none => .bad) = thenS (match ixP xs.length j with
      | some n => some (st.set k (.lst (xs.set n x)))
      | none => none) ρ
    cases ixP xs.length j <;> rfl
def ownL (o : Option Slot) : Option (List PV) := match o with
  | some (.own (.lst xs)) => some xs
  | _ => none
@[simp] theorem ownL_own (xs : List PV) : ownL (some (.own (.lst xs))) = some xs := rfl
theorem evS_app (i : Nat) (e : C) : evS Φ F (.app i e) ρ st = thenL (ownL ρ[i]?) fun xs => (ev Φ e ρ st).then ρ fun x st => if szOk (xs.length + 1) then .nx (ρ.set i (.own (.lst (xs ++ [x])))) st else .bad := by
  rw [evS]
  cases ρ[i]? with
  | none => rfl
  | some v =>
    cases v <;> try rfl
    rename_i v
    cases v <;> rfl
theorem evS_ext (i : Nat) (e : C) : evS Φ F (.ext i e) ρ st = thenL (ownL ρ[i]?) fun xs => (ev Φ e ρ st).then ρ fun x st => thenL (lstV x) fun ys => if szOk (xs.length + ys.length) then .nx (ρ.set i (.own (.lst (xs ++ ys)))) st else .bad := by
  rw [evS]
  cases ρ[i]? with
  | none => rfl
  | some v =>
    cases v <;> try rfl
    rename_i v
    cases v <;> try rfl
    show (ev Φ e ρ st).then ρ _ = (ev Φ e ρ st).then ρ _
    congr; funext x st; cases x <;> rfl
theorem evS_if (t : C) (a b : Ss) : evS Φ F (.if_ t a b) ρ st = (ev Φ t ρ st).then ρ fun x st => ifB x (evSs Φ F a ρ st) (evSs Φ F b ρ st) := rfl
def bodyL (tg : List Nat) (b : Ss) (x : PV) (ρ : En) (st : Cel) : RS := match assignT tg x ρ with
  | some ρ1 => evSs Φ F b ρ1 st
  | none => .bad
theorem bodyL_eq {tg : List Nat} {b : Ss} {x : PV} {ρ ρ1 : En} {st : Cel} (h : assignT tg x ρ = some ρ1) : bodyL Φ F tg b x ρ st = evSs Φ F b ρ1 st := by unfold bodyL; rw [h]
theorem bodyL_1 {i : Nat} {b : Ss} {x : PV} {ρ : En} {st : Cel} : bodyL Φ F [i] b x ρ st = evSs Φ F b (set1 ρ i x) st := rfl
theorem evS_for (tg : List Nat) (it : C) (b : Ss) : evS Φ F (.for_ tg it b) ρ st = (ev Φ it ρ st).then ρ fun iv st => thenL (itemsOf iv) fun xs => forL (bodyL Φ F tg b) xs ρ st := by
  rw [evS]; congr
theorem evS_while (t : C) (b : Ss) : evS Φ F (.while_ t b) ρ st = whileL (fun ρ st => ev Φ t ρ st) (fun ρ st => evSs Φ F b ρ st) F ρ st := rfl
theorem evS_ret (e : C) : evS Φ F (.ret e) ρ st = (ev Φ e ρ st).then ρ fun x st => .rt x st := rfl
theorem evS_expr (e : C) : evS Φ F (.expr e) ρ st = (ev Φ e ρ st).then ρ fun _ st => .nx ρ st := rfl
theorem evS_pass : evS Φ F .pass ρ st = .nx ρ st := rfl
theorem evS_brk : evS Φ F .brk ρ st = .bk ρ st := rfl
theorem evS_cnt : evS Φ F .cnt ρ st = .ct ρ st := rfl
def frzE (o : Option Slot) (i : Nat) (ρ : En) (st : Cel) : RS := match o with
  | some (.own v) => .nx (ρ.set i (.val v)) st
  | _ => .nx ρ st
@[simp] theorem frzE_own (v : PV) (i : Nat) : frzE (some (.own v)) i ρ st = .nx (ρ.set i (.val v)) st := rfl
@[simp] theorem frzE_val (v : PV) (i : Nat) : frzE (some (.val v)) i ρ st = .nx ρ st := rfl
@[simp] theorem frzE_emp (i : Nat) : frzE (some .emp) i ρ st = .nx ρ st := rfl
theorem evS_frz (i : Nat) : evS Φ F (.frz i) ρ st = frzE ρ[i]? i ρ st := by
  rw [evS]; cases ρ[i]? with
  | none => rfl
  | some v => cases v <;> rfl
def tupV : PV → Option (List PV)
  | .tup xs => some xs
  | _ => none
@[simp] theorem tupV_tup (xs : List PV) : tupV (.tup xs) = some xs := rfl
theorem evS_ustar (is : List Nat) (j : Nat) (e : C) : evS Φ F (.ustar is j e) ρ st = (ev Φ e ρ st).then ρ fun x st => thenL (tupV x) fun xs => if is.length ≤ xs.length ∧ xs.length ≤ 16384 then .nx (set1 ((is.zip (xs.take is.length)).foldl (fun ρ p => set1 ρ p.1 p.2) ρ) j (.lst (xs.drop is.length))) st else .bad := by
  rw [evS]; congr; funext x st; cases x <;> rfl
theorem evS_popA (tg : List Nat) (i : Nat) : evS Φ F (.popA tg i) ρ st = thenL (ownL ρ[i]?) fun xs => (R.of xs[xs.length - 1]? st).then ρ fun y st => thenO (assignT tg y (ρ.set i (.own (.lst xs.dropLast)))) st := by
  rw [evS]
  cases ρ[i]? with
  | none => rfl
  | some v =>
    cases v <;> try rfl
    rename_i v
    cases v <;> try rfl
    rename_i xs
    show (match xs[xs.length - 1]? with
      | some y => (match assignT tg y (ρ.set i (.own (.lst xs.dropLast))) with
        | some ρ1 => RS.nx ρ1 st
        | none => .bad)
      | none => .bad) = (R.of xs[xs.length - 1]? st).then ρ _
    cases xs[xs.length - 1]? <;> rfl
theorem evS_popK (i : Nat) (k : C) : evS Φ F (.popK i k) ρ st = thenL (ownL ρ[i]?) fun xs => (ev Φ k ρ st).then ρ fun z st => thenL (popI xs z) fun ys => .nx (ρ.set i (.own (.lst ys))) st := by
  rw [evS]
  cases ρ[i]? with
  | none => rfl
  | some v =>
    cases v <;> try rfl
    rename_i v
    cases v <;> rfl
theorem evS_insO (i : Nat) (a e : C) : evS Φ F (.insO i a e) ρ st = thenL (ownL ρ[i]?) fun xs => (ev Φ a ρ st).then ρ fun z st => (ev Φ e ρ st).then ρ fun x st => thenL (insI xs z x) fun ys => .nx (ρ.set i (.own (.lst ys))) st := by
  rw [evS]
  cases ρ[i]? with
  | none => rfl
  | some v =>
    cases v <;> try rfl
    rename_i v
    cases v <;> rfl
theorem evS_setO (i : Nat) (a e : C) : evS Φ F (.setO i a e) ρ st = thenL (ownL ρ[i]?) fun xs => (ev Φ e ρ st).then ρ fun x st => (ev Φ a ρ st).then ρ fun z st => thenL (setI' xs z x) fun ys => .nx (ρ.set i (.own (.lst ys))) st := by
  rw [evS]
  cases ρ[i]? with
  | none => rfl
  | some v =>
    cases v <;> try rfl
    rename_i v
    cases v <;> rfl
theorem evS_parOV (i j : Nat) (a b : C) : evS Φ F (.parOV i j a b) ρ st = (ev Φ a ρ st).then ρ fun x st => thenL (lstOf x) fun xs => (ev Φ b ρ st).then ρ fun y st => if i = j then .bad else .nx ((ρ.set i (.own (.lst xs))).set j (.val y)) st := by
  rw [evS]; congr
theorem evS_parVO (i j : Nat) (a b : C) : evS Φ F (.parVO i j a b) ρ st = (ev Φ a ρ st).then ρ fun x st => (ev Φ b ρ st).then ρ fun y st => thenL (lstOf y) fun ys => if i = j then .bad else .nx ((ρ.set i (.val x)).set j (.own (.lst ys))) st := by
  rw [evS]; congr
theorem evSs_nil : evSs Φ F .nil ρ st = .nx ρ st := rfl
theorem evSs_cons (s : Ev.S) (r : Ss) : evSs Φ F (.cons s r) ρ st = (evS Φ F s ρ st).seq fun ρ st => evSs Φ F r ρ st := rfl
end
/-! ### the same, lazily: what stands behind is kept out of simp's sight -/
class Kp (α : Type) where
  run : α → Cel → Prop
class Kq where
  N : En → Cel → Prop
  T : PV → Cel → Prop
  B : En → Cel → Prop
  C : En → Cel → Prop
@[irreducible] def R.w {α : Type} (r : R α) [Q : Kp α] : Prop := r.wp Q.run
@[irreducible] def RS.w (r : RS) [Q : Kq] : Prop := r.wp Q.N Q.T Q.B Q.C
@[simp ↓] theorem Kp_run {α : Type} (f : α → Cel → Prop) (a : α) (st : Cel) : @Kp.run α ⟨f⟩ a st = f a st := rfl
section
variable (N : En → Cel → Prop) (T : PV → Cel → Prop) (B C : En → Cel → Prop) (ρ : En) (st : Cel)
@[simp ↓] theorem Kq_N : @Kq.N ⟨N, T, B, C⟩ ρ st = N ρ st := rfl
@[simp ↓] theorem Kq_T (v : PV) : @Kq.T ⟨N, T, B, C⟩ v st = T v st := rfl
@[simp ↓] theorem Kq_B : @Kq.B ⟨N, T, B, C⟩ ρ st = B ρ st := rfl
@[simp ↓] theorem Kq_C : @Kq.C ⟨N, T, B, C⟩ ρ st = C ρ st := rfl
end
theorem R.w_mono {α : Type} {r : R α} {Q Q' : Kp α} (h : @R.w α r Q) (i : ∀ a st, Q.run a st → Q'.run a st) : @R.w α r Q' := by with_unfolding_all exact R.wp_mono h i
theorem R.w_eq {α : Type} {r : R α} {Q : Kp α} (h : @R.w α r Q) : ∃ a st, r = .ok a st ∧ Q.run a st := by with_unfolding_all exact R.wp_eq h
section
variable {α β : Type} (Q : Kp α) (Qb : Kp β)
@[simp] theorem R.w_ok (a : α) (st : Cel) : @R.w α (.ok a st) Q = Q.run a st := by with_unfolding_all rfl
@[simp] theorem R.w_bad : @R.w α .bad Q = False := by with_unfolding_all rfl
@[simp] theorem R.w_exc (e : EX) (st : Cel) : @R.w α (.exc e st) Q = False := by with_unfolding_all rfl
@[simp ↓] theorem R.w_bind (r : R β) (f : β → Cel → R α) : @R.w α (r.bind f) Q = @R.w β r ⟨fun a st => @R.w α (f a st) Q⟩ := by with_unfolding_all exact R.wp_bind r f _
theorem R.w_bind2 {γ : Type} (Qc : Kp γ) (r : R α) (g : α → Cel → R β) (h : α → β → Cel → R γ) : @R.w γ (r.bind fun x st => (g x st).bind fun y st => h x y st) Qc = @R.w α r ⟨fun x st => @R.w β (g x st) ⟨fun y st => @R.w γ (h x y st) Qc⟩⟩ := by
  cases r with
  | ok a st => with_unfolding_all exact R.w_bind Qc (g a st) (fun y st => h a y st)
  | exc e st => with_unfolding_all rfl
  | bad => with_unfolding_all rfl
theorem R.w_bind3 {γ δ : Type} (Qd : Kp δ) (r : R α) (g : α → Cel → R β) (h : α → β → Cel → R γ) (k : α → β → γ → Cel → R δ) : @R.w δ (r.bind fun x st => (g x st).bind fun y st => (h x y st).bind fun z st => k x y z st) Qd = @R.w α r ⟨fun x st => @R.w β (g x st) ⟨fun y st => @R.w γ (h x y st) ⟨fun z st => @R.w δ (k x y z st) Qd⟩⟩⟩ := by
  cases r with
  | ok a st => with_unfolding_all exact R.w_bind2 Qd (g a st) (fun y st => h a y st) (fun y z st => k a y z st)
  | exc e st => with_unfolding_all rfl
  | bad => with_unfolding_all rfl
@[simp ↓] theorem R.w_noexc (r : R α) : @R.w α r.noexc Q = @R.w α r Q := by with_unfolding_all exact R.wp_noexc r _
@[simp ↓] theorem R.w_ite (c : Prop) [Decidable c] (a b : R α) : @R.w α (if c then a else b) Q = if c then @R.w α a Q else @R.w α b Q := by split <;> (with_unfolding_all rfl)
@[simp ↓] theorem R.w_ifR (c : Bool) (a b : R α) : @R.w α (ifR (.bl c) a b) Q = if c = true then @R.w α a Q else @R.w α b Q := by cases c <;> (with_unfolding_all rfl)
end
section
variable (Φ : Nat → List PV → Cel → R PV) (F : Nat) (ρ : En) (st : Cel) (Q : Kp PV) (Qs : Kp (List PV)) (Qb : Kp Bool) (Qo : Kp (Option Int)) (K : Kq)
@[simp ↓] theorem w_var (i : Nat) : @R.w _ (ev Φ (.var i) ρ st) Q = @R.w _ (getV ρ[i]? st) Q := by with_unfolding_all rfl
@[simp ↓] theorem w_bor (i : Nat) : @R.w _ (ev Φ (.bor i) ρ st) Q = @R.w _ (getB ρ[i]? st) Q := by with_unfolding_all rfl
@[simp ↓] theorem w_int (i : Int) : @R.w _ (ev Φ (.int i) ρ st) Q = Q.run (.int i) st := by with_unfolding_all rfl
@[simp ↓] theorem w_str (i : Str) : @R.w _ (ev Φ (.str i) ρ st) Q = Q.run (.str i) st := by with_unfolding_all rfl
@[simp ↓] theorem w_bl (i : Bool) : @R.w _ (ev Φ (.bl i) ρ st) Q = Q.run (.bl i) st := by with_unfolding_all rfl
@[simp ↓] theorem w_non : @R.w _ (ev Φ .non ρ st) Q = Q.run .non st := by with_unfolding_all rfl
@[simp ↓] theorem w_bin (op : BOp) (a b : C) : @R.w _ (ev Φ (.bin op a b) ρ st) Q = @R.w _ (ev Φ a ρ st) ⟨fun x st => @R.w _ (ev Φ b ρ st) ⟨fun y st => @R.w _ (R.of (binV op x y) st) Q⟩⟩ := by rw [ev_bin]; with_unfolding_all exact R.w_bind2 ..
@[simp ↓] theorem w_neg (a : C) : @R.w _ (ev Φ (.neg a) ρ st) Q = @R.w _ (ev Φ a ρ st) ⟨fun x st => @R.w _ (R.of (negV x) st) Q⟩ := by rw [ev_neg, R.w_bind]
@[simp ↓] theorem w_not (a : C) : @R.w _ (ev Φ (.not a) ρ st) Q = @R.w _ (ev Φ a ρ st) ⟨fun x st => @R.w _ (R.of (notV x) st) Q⟩ := by rw [ev_not, R.w_bind]
@[simp ↓] theorem w_cmp (op : COp) (a b : C) : @R.w _ (ev Φ (.cmp op a b) ρ st) Q = @R.w _ (ev Φ a ρ st) ⟨fun x st => @R.w _ (ev Φ b ρ st) ⟨fun y st => @R.w _ (R.of ((cmpV op x y).map .bl) st) Q⟩⟩ := by rw [ev_cmp]; with_unfolding_all exact R.w_bind2 ..
@[simp ↓] theorem w_and (a b : C) : @R.w _ (ev Φ (.and a b) ρ st) Q = @R.w _ (ev Φ a ρ st) ⟨fun x st => @R.w _ (ifR x (ev Φ b ρ st) (.ok (.bl false) st)) Q⟩ := by rw [ev_and, R.w_bind]
@[simp ↓] theorem w_or (a b : C) : @R.w _ (ev Φ (.or a b) ρ st) Q = @R.w _ (ev Φ a ρ st) ⟨fun x st => @R.w _ (ifR x (.ok (.bl true) st) (ev Φ b ρ st)) Q⟩ := by rw [ev_or, R.w_bind]
@[simp ↓] theorem w_ite (t a b : C) : @R.w _ (ev Φ (.ite t a b) ρ st) Q = @R.w _ (ev Φ t ρ st) ⟨fun x st => @R.w _ (ifR x (ev Φ a ρ st) (ev Φ b ρ st)) Q⟩ := by rw [ev_ite, R.w_bind]
@[simp ↓] theorem w_tup (es : Cs) : @R.w _ (ev Φ (.tup es) ρ st) Q = @R.w _ (evs Φ es ρ st) ⟨fun xs st => @R.w _ (if szOk xs.length then .ok (.tup xs) st else .bad) Q⟩ := by rw [ev_tup, R.w_bind]
@[simp ↓] theorem w_lst (es : Cs) : @R.w _ (ev Φ (.lst es) ρ st) Q = @R.w _ (evs Φ es ρ st) ⟨fun xs st => @R.w _ (if szOk xs.length then .ok (.lst xs) st else .bad) Q⟩ := by rw [ev_lst, R.w_bind]
@[simp ↓] theorem w_call (f : Nat) (es : Cs) : @R.w _ (ev Φ (.call f es) ρ st) Q = @R.w _ (evs Φ es ρ st) ⟨fun xs st => @R.w _ (Φ f xs st) Q⟩ := by rw [ev_call]; with_unfolding_all refine (R.w_bind ..).trans ?_; cases evs Φ es ρ st <;> first | (with_unfolding_all rfl) | (with_unfolding_all exact R.w_noexc ..)
@[simp ↓] theorem w_len (a : C) : @R.w _ (ev Φ (.len a) ρ st) Q = @R.w _ (ev Φ a ρ st) ⟨fun x st => @R.w _ (R.of (lenV x) st) Q⟩ := by rw [ev_len, R.w_bind]
@[simp ↓] theorem w_toInt (a : C) : @R.w _ (ev Φ (.toInt a) ρ st) Q = @R.w _ (ev Φ a ρ st) ⟨fun x st => @R.w _ (R.of (toIntV x) st) Q⟩ := by rw [ev_toInt, R.w_bind]
@[simp ↓] theorem w_tupleOf (a : C) : @R.w _ (ev Φ (.tupleOf a) ρ st) Q = @R.w _ (ev Φ a ρ st) ⟨fun x st => @R.w _ (R.of (tupleV x) st) Q⟩ := by rw [ev_tupleOf, R.w_bind]
@[simp ↓] theorem w_listOf (a : C) : @R.w _ (ev Φ (.listOf a) ρ st) Q = @R.w _ (ev Φ a ρ st) ⟨fun x st => @R.w _ (R.of (listV x) st) Q⟩ := by rw [ev_listOf, R.w_bind]
@[simp ↓] theorem w_isa (a : C) (t : Ty) : @R.w _ (ev Φ (.isa a t) ρ st) Q = @R.w _ (ev Φ a ρ st) ⟨fun x st => @R.w _ (R.of ((isaV x t).map .bl) st) Q⟩ := by rw [ev_isa, R.w_bind]
@[simp ↓] theorem w_all (a : C) : @R.w _ (ev Φ (.all a) ρ st) Q = @R.w _ (ev Φ a ρ st) ⟨fun x st => @R.w _ (R.of (allV x) st) Q⟩ := by rw [ev_all, R.w_bind]
@[simp ↓] theorem w_indexOf (a b : C) : @R.w _ (ev Φ (.indexOf a b) ρ st) Q = @R.w _ (ev Φ a ρ st) ⟨fun x st => @R.w _ (if isL x then (ev Φ b ρ st).bind fun y st => R.of (indexV x y) st else .bad) Q⟩ := by rw [ev_indexOf, R.w_bind]
@[simp ↓] theorem w_ix (a i : C) : @R.w _ (ev Φ (.ix a i) ρ st) Q = @R.w _ (ev Φ a ρ st) ⟨fun x st => @R.w _ (ev Φ i ρ st) ⟨fun y st => @R.w _ (R.of (ixV st x y) st) Q⟩⟩ := by rw [ev_ix]; with_unfolding_all exact R.w_bind2 ..
@[simp ↓] theorem w_sl (a : C) (lo hi : Cs) : @R.w _ (ev Φ (.sl a lo hi) ρ st) Q = @R.w _ (ev Φ a ρ st) ⟨fun x st => @R.w _ (evo Φ lo ρ st) ⟨fun l st => @R.w _ (evo Φ hi ρ st) ⟨fun h st => @R.w _ (R.of (slV x l h) st) Q⟩⟩⟩ := by rw [ev_sl]; with_unfolding_all exact R.w_bind3 ..
@[simp ↓] theorem w_comp (elt : C) (tg : List Nat) (it : C) (ifs : Cs) (own : List Nat) : @R.w _ (ev Φ (.comp elt tg it ifs own) ρ st) Q = @R.w _ (ev Φ it ρ st) ⟨fun iv st => @R.w _ (R.of (itemsOf iv) st) ⟨fun xs st => @R.w _ (compL (turnF Φ elt tg ifs own ρ) xs st) ⟨fun ys st => @R.w _ (if szOk ys.length then .ok (.lst ys) st else .bad) Q⟩⟩⟩ := by rw [ev_comp]; with_unfolding_all exact R.w_bind3 ..
@[simp ↓] theorem w_rng1 (a : C) : @R.w _ (ev Φ (.rng1 a) ρ st) Q = @R.w _ (ev Φ a ρ st) ⟨fun x st => @R.w _ (R.of (rng1V x) st) Q⟩ := by rw [ev_rng1, R.w_bind]
@[simp ↓] theorem w_rng2 (a b : C) : @R.w _ (ev Φ (.rng2 a b) ρ st) Q = @R.w _ (ev Φ a ρ st) ⟨fun x st => @R.w _ (ev Φ b ρ st) ⟨fun y st => @R.w _ (R.of (rng2V x y) st) Q⟩⟩ := by rw [ev_rng2]; with_unfolding_all exact R.w_bind2 ..
@[simp ↓] theorem w_zip2 (a b : C) : @R.w _ (ev Φ (.zip2 a b) ρ st) Q = @R.w _ (ev Φ a ρ st) ⟨fun x st => @R.w _ (ev Φ b ρ st) ⟨fun y st => @R.w _ (R.of (zipV x y) st) Q⟩⟩ := by rw [ev_zip2]; with_unfolding_all exact R.w_bind2 ..
@[simp ↓] theorem w_repr (a : C) : @R.w _ (ev Φ (.repr a) ρ st) Q = @R.w _ (ev Φ a ρ st) ⟨fun x st => @R.w _ (R.of (reprV x) st) Q⟩ := by rw [ev_repr, R.w_bind]
@[simp ↓] theorem w_dct (a : Cs) : @R.w _ (ev Φ (.dct a) ρ st) Q = @R.w _ (evs Φ a ρ st) ⟨fun x st => @R.w _ (R.of (dctV x) st) Q⟩ := by rw [ev_dct, R.w_bind]
@[simp ↓] theorem w_dget (a b : C) : @R.w _ (ev Φ (.dget a b) ρ st) Q = @R.w _ (ev Φ a ρ st) ⟨fun x st => @R.w _ (ev Φ b ρ st) ⟨fun y st => @R.w _ (R.of (dgetV x y) st) Q⟩⟩ := by rw [ev_dget]; with_unfolding_all exact R.w_bind2 ..
@[simp ↓] theorem w_any (a : C) : @R.w _ (ev Φ (.any a) ρ st) Q = @R.w _ (ev Φ a ρ st) ⟨fun x st => @R.w _ (R.of (anyV x) st) Q⟩ := by rw [ev_any, R.w_bind]
@[simp ↓] theorem w_str1 (a : C) : @R.w _ (ev Φ (.str1 a) ρ st) Q = @R.w _ (ev Φ a ρ st) ⟨fun x st => @R.w _ (R.of (str1V x) st) Q⟩ := by rw [ev_str1, R.w_bind]
@[simp ↓] theorem w_chn (o1 o2 : COp) (a b c : C) : @R.w _ (ev Φ (.chain o1 o2 a b c) ρ st) Q = @R.w _ (ev Φ a ρ st) ⟨fun x st => @R.w _ (ev Φ b ρ st) ⟨fun y st => @R.w _ (R.of (cmpV o1 x y) st) ⟨fun t st => if t = true then @R.w _ (ev Φ c ρ st) ⟨fun z st => @R.w _ (R.of ((cmpV o2 y z).map .bl) st) Q⟩ else Q.run (.bl false) st⟩⟩⟩ := by
  rw [ev_chain]; with_unfolding_all refine (R.w_bind2 ..).trans ?_
  congr; funext x st; congr; funext y st
  cases cmpV o1 x y with
  | none => with_unfolding_all rfl
  | some t =>
    cases t with
    | true => with_unfolding_all exact R.w_bind ..
    | false => with_unfolding_all rfl
@[simp ↓] theorem w_gc (g : Nat) : @R.w _ (ev Φ (.gc g) ρ st) Q = @R.w _ (Φ (1000 + g) [] st) Q := by rw [ev_gc, R.w_noexc]
@[simp ↓] theorem w_kget (g : Nat) (k : C) : @R.w _ (ev Φ (.kget g k) ρ st) Q = @R.w _ (ev Φ k ρ st) ⟨fun x st => @R.w _ (Φ (2000 + g) [x] st) Q⟩ := by
  rw [ev_kget]; with_unfolding_all refine (R.w_bind ..).trans ?_
  cases ev Φ k ρ st <;> first | (with_unfolding_all rfl) | (with_unfolding_all exact R.w_noexc ..)
@[simp ↓] theorem w_kin (neg : Bool) (g : Nat) (k : C) : @R.w _ (ev Φ (.kin neg g k) ρ st) Q = @R.w _ (ev Φ k ρ st) ⟨fun x st => @R.w _ (Φ (3000 + g) [x] st) ⟨fun b st => @R.w _ (if neg then R.of (notV b) st else .ok b st) Q⟩⟩ := by
  rw [ev_kin]; with_unfolding_all refine (R.w_bind2 ..).trans ?_
  cases ev Φ k ρ st <;> first | (with_unfolding_all rfl) | (with_unfolding_all exact R.w_noexc ..)
@[simp ↓] theorem w_comp2 (elt : C) (tg : List Nat) (it : C) (tg2 : List Nat) (it2 : C) (ifs : Cs) (own own2 : List Nat) : @R.w _ (ev Φ (.comp2 elt tg it tg2 it2 ifs own own2) ρ st) Q = @R.w _ (ev Φ it ρ st) ⟨fun iv st => @R.w _ (R.of (itemsOf iv) st) ⟨fun xs st => @R.w _ (flatL (turn2 Φ elt tg tg2 it2 ifs own own2 ρ) xs st) ⟨fun ys st => @R.w _ (if szOk ys.length then .ok (.lst ys) st else .bad) Q⟩⟩⟩ := by rw [ev_comp2]; with_unfolding_all exact R.w_bind3 ..
theorem w_turn2 (elt : C) (tg tg2 : List Nat) (it2 : C) (ifs : Cs) (own own2 : List Nat) (x : PV) : @R.w _ (turn2 Φ elt tg tg2 it2 ifs own own2 ρ x st) Qs = @R.w _ (R.of (assignT tg x (wipeE ρ own)) st) ⟨fun ρ1 st => @R.w _ (ev Φ it2 ρ1 st) ⟨fun iv st => @R.w _ (R.of (itemsOf iv) st) ⟨fun ys st => @R.w _ (compL (turnF Φ elt tg2 ifs own2 ρ1) ys st) Qs⟩⟩⟩ := by rw [turn2_eq]; with_unfolding_all exact R.w_bind3 ..
@[simp ↓] theorem w_enum (a : C) : @R.w _ (ev Φ (.enum a) ρ st) Q = @R.w _ (ev Φ a ρ st) ⟨fun x st => @R.w _ (R.of (enumV x) st) Q⟩ := by rw [ev_enum, R.w_bind]
@[simp ↓] theorem w_join (a b : C) : @R.w _ (ev Φ (.join a b) ρ st) Q = @R.w _ (ev Φ a ρ st) ⟨fun x st => @R.w _ (if isS x then (ev Φ b ρ st).bind fun y st => R.of (joinV x y) st else .bad) Q⟩ := by rw [ev_join, R.w_bind]
@[simp ↓] theorem w_fstr (es : Cs) : @R.w _ (ev Φ (.fstr es) ρ st) Q = @R.w _ (evj Φ es Str.empty ρ st) ⟨fun s st => Q.run (.str s) st⟩ := by rw [ev_fstr, R.w_bind]; with_unfolding_all rfl
@[simp ↓] theorem wj_nil (acc : Str) (Qz : Kp Str) : @R.w _ (evj Φ .nil acc ρ st) Qz = Qz.run acc st := by with_unfolding_all rfl
@[simp ↓] theorem wj_cons (a : C) (r : Cs) (acc : Str) (Qz : Kp Str) : @R.w _ (evj Φ (.cons a r) acc ρ st) Qz = @R.w _ (ev Φ a ρ st) ⟨fun x st => @R.w _ (R.of (fmtV acc x) st) ⟨fun acc' st => @R.w _ (evj Φ r acc' ρ st) Qz⟩⟩ := by rw [evj_cons]; with_unfolding_all exact R.w_bind2 ..
@[simp ↓] theorem w_zips (a b : C) : @R.w _ (ev Φ (.zips a b) ρ st) Q = @R.w _ (ev Φ a ρ st) ⟨fun x st => @R.w _ (ev Φ b ρ st) ⟨fun y st => @R.w _ (R.of (zipsV x y) st) Q⟩⟩ := by rw [ev_zips]; with_unfolding_all exact R.w_bind2 ..
@[simp ↓] theorem w_dkeys (a : C) : @R.w _ (ev Φ (.dkeys a) ρ st) Q = @R.w _ (ev Φ a ρ st) ⟨fun x st => @R.w _ (R.of (dkeysV x) st) Q⟩ := by rw [ev_dkeys, R.w_bind]
@[simp ↓] theorem w_dgetT (a b : C) : @R.w _ (ev Φ (.dgetT a b) ρ st) Q = @R.w _ (ev Φ a ρ st) ⟨fun x st => @R.w _ (ev Φ b ρ st) ⟨fun y st => @R.w _ (R.of (dgetTV x y) st) Q⟩⟩ := by rw [ev_dgetT]; with_unfolding_all exact R.w_bind2 ..
@[simp ↓] theorem w_glist (f : Nat) (es : Cs) : @R.w _ (ev Φ (.glist f es) ρ st) Q = @R.w _ (evs Φ es ρ st) ⟨fun xs st => @R.w _ (Φ f xs st) ⟨fun x st => @R.w _ (R.of (lstG x) st) Q⟩⟩ := by
  rw [ev_glist]; with_unfolding_all refine (R.w_bind2 ..).trans ?_
  cases evs Φ es ρ st <;> first | (with_unfolding_all rfl) | (with_unfolding_all exact R.w_noexc ..)
@[simp ↓] theorem w_dcomp2 (k1 k2 v : C) (tg : List Nat) (it : C) (tg2 : List Nat) (it2 : C) (own own2 : List Nat) : @R.w _ (ev Φ (.dcomp2 k1 k2 v tg it tg2 it2 own own2) ρ st) Q = @R.w _ (ev Φ it ρ st) ⟨fun iv st => @R.w _ (R.of (itemsOf iv) st) ⟨fun xs st => @R.w _ (flatL (turnD2 Φ k1 k2 v tg tg2 it2 own own2 ρ) xs st) ⟨fun ys st => @R.w _ (R.of (dttV ys) st) Q⟩⟩⟩ := by rw [ev_dcomp2]; with_unfolding_all exact R.w_bind3 ..
theorem w_turnD (k1 k2 v : C) (tg : List Nat) (own : List Nat) (x : PV) (Qt : Kp (Option PV)) : @R.w _ (turnD Φ k1 k2 v tg own ρ x st) Qt = @R.w _ (R.of (assignT tg x (wipeE ρ own)) st) ⟨fun ρ1 st => @R.w _ (ev Φ k1 ρ1 st) ⟨fun a st => @R.w _ (ev Φ k2 ρ1 st) ⟨fun b st => @R.w _ (ev Φ v ρ1 st) ⟨fun z st => Qt.run (some (.tup [a, b, z])) st⟩⟩⟩⟩ := by
  rw [turnD_eq]; with_unfolding_all refine (R.w_bind3 ..).trans ?_
  cases assignT tg x (wipeE ρ own) with
  | none => with_unfolding_all rfl
  | some ρ1 =>
    with_unfolding_all change @R.w _ (ev Φ k1 ρ1 st) ⟨_⟩ = @R.w _ (ev Φ k1 ρ1 st) ⟨_⟩
    cases ev Φ k1 ρ1 st with
    | ok a s =>
      with_unfolding_all change @R.w _ (ev Φ k2 ρ1 s) ⟨_⟩ = @R.w _ (ev Φ k2 ρ1 s) ⟨_⟩
      cases ev Φ k2 ρ1 s with
      | ok b s2 => with_unfolding_all exact R.w_bind ..
      | exc e s => with_unfolding_all rfl
      | bad => with_unfolding_all rfl
    | exc e s => with_unfolding_all rfl
    | bad => with_unfolding_all rfl
theorem w_turnD2 (k1 k2 v : C) (tg tg2 : List Nat) (it2 : C) (own own2 : List Nat) (x : PV) : @R.w _ (turnD2 Φ k1 k2 v tg tg2 it2 own own2 ρ x st) Qs = @R.w _ (R.of (assignT tg x (wipeE ρ own)) st) ⟨fun ρ1 st => @R.w _ (ev Φ it2 ρ1 st) ⟨fun iv st => @R.w _ (R.of (itemsOf iv) st) ⟨fun ys st => @R.w _ (compL (turnD Φ k1 k2 v tg2 own2 ρ1) ys st) Qs⟩⟩⟩ := by rw [turnD2_eq]; with_unfolding_all exact R.w_bind3 ..
@[simp ↓] theorem w_dgetD (a b : C) : @R.w _ (ev Φ (.dgetD a b) ρ st) Q = @R.w _ (ev Φ a ρ st) ⟨fun x st => @R.w _ (if isD x then (ev Φ b ρ st).bind fun y st => R.of (dgetN x y) st else .bad) Q⟩ := by rw [ev_dgetD, R.w_bind]
@[simp ↓] theorem w_cat (a b : C) : @R.w _ (ev Φ (.cat a b) ρ st) Q = @R.w _ (ev Φ a ρ st) ⟨fun x st => @R.w _ (ev Φ b ρ st) ⟨fun y st => @R.w _ (R.of (catV x y) st) Q⟩⟩ := by rw [ev_cat]; with_unfolding_all exact R.w_bind2 ..
@[simp ↓] theorem w_isa2 (a : C) (t u : Ty) : @R.w _ (ev Φ (.isa2 a t u) ρ st) Q = @R.w _ (ev Φ a ρ st) ⟨fun x st => @R.w _ (R.of ((isa2V x t u).map .bl) st) Q⟩ := by rw [ev_isa2, R.w_bind]
@[simp ↓] theorem w_revT (a : C) : @R.w _ (ev Φ (.revT a) ρ st) Q = @R.w _ (ev Φ a ρ st) ⟨fun x st => @R.w _ (R.of (revTV x) st) Q⟩ := by rw [ev_revT, R.w_bind]
@[simp ↓] theorem w_rev (a : C) : @R.w _ (ev Φ (.rev a) ρ st) Q = @R.w _ (ev Φ a ρ st) ⟨fun x st => @R.w _ (R.of (revV x) st) Q⟩ := by rw [ev_rev, R.w_bind]
@[simp ↓] theorem w_tupRng (a b : C) : @R.w _ (ev Φ (.tupRng a b) ρ st) Q = @R.w _ (ev Φ a ρ st) ⟨fun x st => @R.w _ (ev Φ b ρ st) ⟨fun y st => @R.w _ (R.of (tupRngV x y) st) Q⟩⟩ := by rw [ev_tupRng]; with_unfolding_all exact R.w_bind2 ..
@[simp ↓] theorem w_sset (a : C) : @R.w _ (ev Φ (.sset a) ρ st) Q = @R.w _ (ev Φ a ρ st) ⟨fun x st => @R.w _ (R.of (ssetV x) st) Q⟩ := by rw [ev_sset, R.w_bind]
@[simp ↓] theorem w_sorted (a : C) : @R.w _ (ev Φ (.sorted a) ρ st) Q = @R.w _ (ev Φ a ρ st) ⟨fun x st => @R.w _ (R.of (sortedV x) st) Q⟩ := by rw [ev_sorted, R.w_bind]
@[simp ↓] theorem ws_nil : @R.w _ (evs Φ .nil ρ st) Qs = Qs.run [] st := by with_unfolding_all rfl
@[simp ↓] theorem ws_cons (a : C) (r : Cs) : @R.w _ (evs Φ (.cons a r) ρ st) Qs = @R.w _ (ev Φ a ρ st) ⟨fun x st => @R.w _ (evs Φ r ρ st) ⟨fun xs st => Qs.run (x :: xs) st⟩⟩ := by rw [evs_cons]; with_unfolding_all exact R.w_bind2 ..
@[simp ↓] theorem ws_star (a : C) (r : Cs) : @R.w _ (evs Φ (.star a r) ρ st) Qs = @R.w _ (ev Φ a ρ st) ⟨fun x st => @R.w _ (R.of (starV x) st) ⟨fun ys st => @R.w _ (evs Φ r ρ st) ⟨fun xs st => Qs.run (ys ++ xs) st⟩⟩⟩ := by rw [evs_star]; with_unfolding_all exact R.w_bind3 ..
@[simp ↓] theorem wo_nil : @R.w _ (evo Φ .nil ρ st) Qo = Qo.run none st := by with_unfolding_all rfl
@[simp ↓] theorem wo_cons (a : C) : @R.w _ (evo Φ (.cons a .nil) ρ st) Qo = @R.w _ (ev Φ a ρ st) ⟨fun x st => @R.w _ (R.of (oInt x) st) Qo⟩ := by rw [evo_cons, R.w_bind]
@[simp ↓] theorem wt_nil : @R.w _ (evt Φ .nil ρ st) Qb = Qb.run true st := by with_unfolding_all rfl
@[simp ↓] theorem wt_cons (a : C) : @R.w _ (evt Φ (.cons a .nil) ρ st) Qb = @R.w _ (ev Φ a ρ st) ⟨fun x st => @R.w _ (R.of (blV x) st) Qb⟩ := by rw [evt_cons, R.w_bind]
theorem w_turn (elt : C) (tg : List Nat) (ifs : Cs) (own : List Nat) (x : PV) (Qt : Kp (Option PV)) : @R.w _ (turnF Φ elt tg ifs own ρ x st) Qt = @R.w _ (R.of (assignT tg x (wipeE ρ own)) st) ⟨fun ρ1 st => @R.w _ (evt Φ ifs ρ1 st) ⟨fun b st => if b then @R.w _ (ev Φ elt ρ1 st) ⟨fun y st => Qt.run (some y) st⟩ else Qt.run none st⟩⟩ := by
  rw [turnF_eq]; with_unfolding_all refine (R.w_bind2 ..).trans ?_
  cases assignT tg x (wipeE ρ own) with
  | none => with_unfolding_all rfl
  | some ρ1 =>
    with_unfolding_all change @R.w _ (evt Φ ifs ρ1 st) ⟨_⟩ = @R.w _ (evt Φ ifs ρ1 st) ⟨_⟩
    cases evt Φ ifs ρ1 st with
    | ok b s =>
      cases b with
      | true => with_unfolding_all exact R.w_bind ..
      | false => with_unfolding_all rfl
    | exc e s => with_unfolding_all rfl
    | bad => with_unfolding_all rfl
/-! statements -/
@[simp] theorem RS.w_nx : @RS.w (.nx ρ st) K = K.N ρ st := by with_unfolding_all rfl
@[simp] theorem RS.w_rt (v : PV) : @RS.w (.rt v st) K = K.T v st := by with_unfolding_all rfl
@[simp] theorem RS.w_bk : @RS.w (.bk ρ st) K = K.B ρ st := by with_unfolding_all rfl
@[simp] theorem RS.w_ct : @RS.w (.ct ρ st) K = K.C ρ st := by with_unfolding_all rfl
@[simp] theorem RS.w_bad : @RS.w .bad K = False := by with_unfolding_all rfl
@[simp] theorem RS.w_exc (e : EX) : @RS.w (.exc e ρ st) K = False := by with_unfolding_all rfl
@[simp ↓] theorem RS.w_then {α : Type} (r : R α) (f : α → Cel → RS) : @RS.w (r.then ρ f) K = @R.w α r ⟨fun a st => @RS.w (f a st) K⟩ := by with_unfolding_all exact RS.wp_then _ _ _ _ r ρ f
@[simp ↓] theorem RS.w_ite (c : Prop) [Decidable c] (a b : RS) : @RS.w (if c then a else b) K = if c then @RS.w a K else @RS.w b K := by split <;> (with_unfolding_all rfl)
@[simp ↓] theorem RS.w_ifB (c : Bool) (a b : RS) : @RS.w (ifB (.bl c) a b) K = if c = true then @RS.w a K else @RS.w b K := by cases c <;> (with_unfolding_all rfl)
@[simp ↓] theorem RS.w_thenL (xs : List PV) (k : List PV → RS) : @RS.w (thenL (some xs) k) K = @RS.w (k xs) K := by with_unfolding_all rfl
theorem w_fin (r : RS) : @R.w _ (fin r) Q = @RS.w r ⟨fun _ st => Q.run .non st, Q.run, fun _ _ => False, fun _ _ => False⟩ := by with_unfolding_all exact wp_fin r _
@[simp ↓] theorem wSs_nil : @RS.w (evSs Φ F .nil ρ st) K = K.N ρ st := by with_unfolding_all rfl
@[simp ↓] theorem wSs_cons (s : Ev.S) (r : Ss) : @RS.w (evSs Φ F (.cons s r) ρ st) K = @RS.w (evS Φ F s ρ st) ⟨fun ρ st => @RS.w (evSs Φ F r ρ st) K, K.T, K.B, K.C⟩ := by with_unfolding_all exact RS.wp_seq _ _ _ _ _ _
@[simp ↓] theorem wS_asg (tg : List Nat) (e : C) : @RS.w (evS Φ F (.asg tg e) ρ st) K = @R.w _ (ev Φ e ρ st) ⟨fun x st => @RS.w (thenO (assignT tg x ρ) st) K⟩ := by rw [evS_asg, RS.w_then]
@[simp ↓] theorem wS_par (is : List Nat) (es : Cs) : @RS.w (evS Φ F (.par is es) ρ st) K = @R.w _ (evs Φ es ρ st) ⟨fun xs st => @RS.w (if xs.length = is.length then .nx ((is.zip xs).foldl (fun ρ p => set1 ρ p.1 p.2) ρ) st else .bad) K⟩ := by rw [evS_par, RS.w_then]
@[simp ↓] theorem wS_asgO (i : Nat) (e : C) : @RS.w (evS Φ F (.asgO i e) ρ st) K = @R.w _ (ev Φ e ρ st) ⟨fun x st => @R.w _ (R.of (lstV x) st) ⟨fun xs st => K.N (ρ.set i (.own (.lst xs))) st⟩⟩ := by
  rw [evS_asgO, RS.w_then]; congr; funext x st; cases x <;> (with_unfolding_all rfl)
@[simp ↓] theorem wS_asgC (i : Nat) (e : C) : @RS.w (evS Φ F (.asgC i e) ρ st) K = @R.w _ (ev Φ e ρ st) ⟨fun x st => @R.w _ (R.of (lstV x) st) ⟨fun xs st => K.N (ρ.set i (.val (.cell st.length))) (st ++ [.lst xs])⟩⟩ := by
  rw [evS_asgC, RS.w_then]; congr; funext x st; cases x <;> (with_unfolding_all rfl)
@[simp ↓] theorem wS_setI (a i e : C) : @RS.w (evS Φ F (.setI a i e) ρ st) K = @R.w _ (ev Φ e ρ st) ⟨fun x st => @R.w _ (ev Φ a ρ st) ⟨fun o st => @R.w _ (ev Φ i ρ st) ⟨fun j st => @RS.w (thenS (setCel st x o j) ρ) K⟩⟩⟩ := by
  rw [evS_setI, RS.w_then]
  cases ev Φ e ρ st with
  | ok x s =>
    with_unfolding_all refine (RS.w_then ..).trans ?_
    with_unfolding_all change @R.w _ (ev Φ a ρ s) ⟨_⟩ = @R.w _ (ev Φ a ρ s) ⟨_⟩
    cases ev Φ a ρ s <;> first | (with_unfolding_all rfl) | (with_unfolding_all exact RS.w_then ..)
  | exc e s => with_unfolding_all rfl
  | bad => with_unfolding_all rfl
@[simp ↓] theorem wS_app (i : Nat) (e : C) : @RS.w (evS Φ F (.app i e) ρ st) K = @R.w _ (R.of (ownL ρ[i]?) st) ⟨fun xs st => @R.w _ (ev Φ e ρ st) ⟨fun x st => @RS.w (if szOk (xs.length + 1) then .nx (ρ.set i (.own (.lst (xs ++ [x])))) st else .bad) K⟩⟩ := by
  rw [evS_app]; cases ownL ρ[i]? with
  | none => with_unfolding_all rfl
  | some xs => with_unfolding_all exact RS.w_then ..
@[simp ↓] theorem wS_ext (i : Nat) (e : C) : @RS.w (evS Φ F (.ext i e) ρ st) K = @R.w _ (R.of (ownL ρ[i]?) st) ⟨fun xs st => @R.w _ (ev Φ e ρ st) ⟨fun x st => @R.w _ (R.of (lstV x) st) ⟨fun ys st => @RS.w (if szOk (xs.length + ys.length) then .nx (ρ.set i (.own (.lst (xs ++ ys)))) st else .bad) K⟩⟩⟩ := by
  rw [evS_ext]; cases ownL ρ[i]? with
  | none => with_unfolding_all rfl
  | some xs =>
    with_unfolding_all refine (RS.w_then ..).trans ?_
    with_unfolding_all change _ = @R.w _ (ev Φ e ρ st) ⟨_⟩
    congr; funext x st; cases x <;> (with_unfolding_all rfl)
@[simp ↓] theorem wS_if (t : C) (a b : Ss) : @RS.w (evS Φ F (.if_ t a b) ρ st) K = @R.w _ (ev Φ t ρ st) ⟨fun x st => @RS.w (ifB x (evSs Φ F a ρ st) (evSs Φ F b ρ st)) K⟩ := by rw [evS_if, RS.w_then]
@[simp ↓] theorem wS_for (tg : List Nat) (it : C) (b : Ss) : @RS.w (evS Φ F (.for_ tg it b) ρ st) K = @R.w _ (ev Φ it ρ st) ⟨fun iv st => @R.w _ (R.of (itemsOf iv) st) ⟨fun xs st => @RS.w (forL (bodyL Φ F tg b) xs ρ st) K⟩⟩ := by
  rw [evS_for, RS.w_then]; congr; funext x st; cases itemsOf x <;> (with_unfolding_all rfl)
@[simp ↓] theorem wS_while (t : C) (b : Ss) : @RS.w (evS Φ F (.while_ t b) ρ st) K = @RS.w (whileL (fun ρ st => ev Φ t ρ st) (fun ρ st => evSs Φ F b ρ st) F ρ st) K := by with_unfolding_all rfl
@[simp ↓] theorem wS_ret (e : C) : @RS.w (evS Φ F (.ret e) ρ st) K = @R.w _ (ev Φ e ρ st) ⟨fun x st => K.T x st⟩ := by rw [evS_ret, RS.w_then]; with_unfolding_all rfl
@[simp ↓] theorem wS_expr (e : C) : @RS.w (evS Φ F (.expr e) ρ st) K = @R.w _ (ev Φ e ρ st) ⟨fun x st => K.N ρ st⟩ := by rw [evS_expr, RS.w_then]; with_unfolding_all rfl
@[simp ↓] theorem wS_pass : @RS.w (evS Φ F .pass ρ st) K = K.N ρ st := by with_unfolding_all rfl
@[simp ↓] theorem wS_brk : @RS.w (evS Φ F .brk ρ st) K = K.B ρ st := by with_unfolding_all rfl
@[simp ↓] theorem wS_cnt : @RS.w (evS Φ F .cnt ρ st) K = K.C ρ st := by with_unfolding_all rfl
@[simp ↓] theorem wS_frz (i : Nat) : @RS.w (evS Φ F (.frz i) ρ st) K = @RS.w (frzE ρ[i]? i ρ st) K := by rw [evS_frz]
@[simp ↓] theorem wS_ustar (is : List Nat) (j : Nat) (e : C) : @RS.w (evS Φ F (.ustar is j e) ρ st) K = @R.w _ (ev Φ e ρ st) ⟨fun x st => @R.w _ (R.of (tupV x) st) ⟨fun xs st => @RS.w (if is.length ≤ xs.length ∧ xs.length ≤ 16384 then .nx (set1 ((is.zip (xs.take is.length)).foldl (fun ρ p => set1 ρ p.1 p.2) ρ) j (.lst (xs.drop is.length))) st else .bad) K⟩⟩ := by
  rw [evS_ustar, RS.w_then]; congr; funext x st; cases x <;> (with_unfolding_all rfl)
theorem RS.w_then2 {α β : Type} (r : R α) (g : α → Cel → R β) (h : α → β → Cel → RS) : @RS.w (r.then ρ fun x st => (g x st).then ρ fun y st => h x y st) K = @R.w α r ⟨fun x st => @R.w β (g x st) ⟨fun y st => @RS.w (h x y st) K⟩⟩ := by
  cases r with
  | ok a st => with_unfolding_all exact RS.w_then ρ K (g a st) (fun y st => h a y st)
  | exc e st => with_unfolding_all rfl
  | bad => with_unfolding_all rfl
theorem RS.w_thenLo (o : Option (List PV)) (k : List PV → RS) : @RS.w (thenL o k) K = @R.w _ (R.of o st) ⟨fun xs _ => @RS.w (k xs) K⟩ := by cases o <;> (with_unfolding_all rfl)
@[simp ↓] theorem wS_popA (tg : List Nat) (i : Nat) : @RS.w (evS Φ F (.popA tg i) ρ st) K = @R.w _ (R.of (ownL ρ[i]?) st) ⟨fun xs st => @R.w _ (R.of xs[xs.length - 1]? st) ⟨fun y st => @RS.w (thenO (assignT tg y (ρ.set i (.own (.lst xs.dropLast)))) st) K⟩⟩ := by
  rw [evS_popA]; cases ownL ρ[i]? with
  | none => with_unfolding_all rfl
  | some xs => with_unfolding_all exact RS.w_then ..
@[simp ↓] theorem wS_popK (i : Nat) (k : C) : @RS.w (evS Φ F (.popK i k) ρ st) K = @R.w _ (R.of (ownL ρ[i]?) st) ⟨fun xs st => @R.w _ (ev Φ k ρ st) ⟨fun z st => @R.w _ (R.of (popI xs z) st) ⟨fun ys st => K.N (ρ.set i (.own (.lst ys))) st⟩⟩⟩ := by
  rw [evS_popK]; cases ownL ρ[i]? with
  | none => with_unfolding_all rfl
  | some xs =>
    with_unfolding_all refine (RS.w_then ..).trans ?_
    with_unfolding_all change _ = @R.w _ (ev Φ k ρ st) ⟨_⟩
    congr; funext x st; cases popI xs x <;> (with_unfolding_all rfl)
@[simp ↓] theorem wS_insO (i : Nat) (a e : C) : @RS.w (evS Φ F (.insO i a e) ρ st) K = @R.w _ (R.of (ownL ρ[i]?) st) ⟨fun xs st => @R.w _ (ev Φ a ρ st) ⟨fun z st => @R.w _ (ev Φ e ρ st) ⟨fun x st => @R.w _ (R.of (insI xs z x) st) ⟨fun ys st => K.N (ρ.set i (.own (.lst ys))) st⟩⟩⟩⟩ := by
  rw [evS_insO]; cases ownL ρ[i]? with
  | none => with_unfolding_all rfl
  | some xs =>
    with_unfolding_all refine (RS.w_then2 ..).trans ?_
    with_unfolding_all change _ = @R.w _ (ev Φ a ρ st) ⟨_⟩
    congr; funext z st; congr; funext x st; cases insI xs z x <;> (with_unfolding_all rfl)
@[simp ↓] theorem wS_setO (i : Nat) (a e : C) : @RS.w (evS Φ F (.setO i a e) ρ st) K = @R.w _ (R.of (ownL ρ[i]?) st) ⟨fun xs st => @R.w _ (ev Φ e ρ st) ⟨fun x st => @R.w _ (ev Φ a ρ st) ⟨fun z st => @R.w _ (R.of (setI' xs z x) st) ⟨fun ys st => K.N (ρ.set i (.own (.lst ys))) st⟩⟩⟩⟩ := by
  rw [evS_setO]; cases ownL ρ[i]? with
  | none => with_unfolding_all rfl
  | some xs =>
    with_unfolding_all refine (RS.w_then2 ..).trans ?_
    with_unfolding_all change _ = @R.w _ (ev Φ e ρ st) ⟨_⟩
    congr; funext x st; congr; funext z st; cases setI' xs z x <;> (with_unfolding_all rfl)
@[simp ↓] theorem wS_never : @RS.w (evS Φ F .never ρ st) K = False := by with_unfolding_all rfl
@[simp ↓] theorem wS_parOV (i j : Nat) (a b : C) : @RS.w (evS Φ F (.parOV i j a b) ρ st) K = @R.w _ (ev Φ a ρ st) ⟨fun x st => @R.w _ (R.of (lstOf x) st) ⟨fun xs st => @R.w _ (ev Φ b ρ st) ⟨fun y st => @RS.w (if i = j then .bad else .nx ((ρ.set i (.own (.lst xs))).set j (.val y)) st) K⟩⟩⟩ := by
  rw [evS_parOV, RS.w_then]; congr; funext x st; cases lstOf x with
  | none => with_unfolding_all rfl
  | some xs => with_unfolding_all exact RS.w_then ..
@[simp ↓] theorem wS_parVO (i j : Nat) (a b : C) : @RS.w (evS Φ F (.parVO i j a b) ρ st) K = @R.w _ (ev Φ a ρ st) ⟨fun x st => @R.w _ (ev Φ b ρ st) ⟨fun y st => @R.w _ (R.of (lstOf y) st) ⟨fun ys st => @RS.w (if i = j then .bad else .nx ((ρ.set i (.val x)).set j (.own (.lst ys))) st) K⟩⟩⟩ := by
  rw [evS_parVO, RS.w_then2]; congr; funext x st; congr; funext y st; cases lstOf y <;> (with_unfolding_all rfl)
end
theorem RS.w_mono {r : RS} {K K' : Kq} (h : @RS.w r K) (hN : ∀ ρ st, K.N ρ st → K'.N ρ st) (hT : ∀ v st, K.T v st → K'.T v st) (hB : ∀ ρ st, K.B ρ st → K'.B ρ st) (hC : ∀ ρ st, K.C ρ st → K'.C ρ st) : @RS.w r K' := by with_unfolding_all exact RS.wp_mono h hN hT hB hC
/-- a walk by what holds of the rest -/
theorem forL_w {f : PV → En → Cel → RS} {xs : List PV} {ρ : En} {st : Cel} {K : Kq} (I : List PV → En → Cel → Prop) (h0 : I xs ρ st)
    (hs : ∀ x r ρ st, I (x :: r) ρ st → @RS.w (f x ρ st) ⟨I r, K.T, K.N, I r⟩) (hN : ∀ ρ st, I [] ρ st → K.N ρ st) : @RS.w (forL f xs ρ st) K := by with_unfolding_all exact forL_wp I h0 hs hN
theorem compL_w {f : PV → Cel → R (Option PV)} {xs : List PV} {st : Cel} {Q : Kp (List PV)} (I : List PV → List PV → Cel → Prop) (h0 : I xs [] st)
    (hs : ∀ x r acc st, I (x :: r) acc st → @R.w _ (f x st) ⟨fun o st' => I r (acc ++ o.toList) st'⟩) (hQ : ∀ ys st, I [] ys st → Q.run ys st) : @R.w _ (compL f xs st) Q := by with_unfolding_all exact compL_wp I h0 hs hQ
theorem compL_wpure {f : PV → Cel → R (Option PV)} {xs : List PV} {st : Cel} {Q : Kp (List PV)} (g : PV → Option PV) (h : ∀ x ∈ xs, f x st = .ok (g x) st) (q : Q.run (xs.filterMap g) st) : @R.w _ (compL f xs st) Q := by rw [compL_pure g h]; with_unfolding_all exact q
theorem compL_wmap {f : PV → Cel → R (Option PV)} {xs : List PV} {st : Cel} {Q : Kp (List PV)} (g : PV → PV) (h : ∀ x ∈ xs, f x st = .ok (some (g x)) st) (q : Q.run (xs.map g) st) : @R.w _ (compL f xs st) Q := by rw [compL_map g h]; with_unfolding_all exact q
theorem w_compL_nil {f : PV → Cel → R (Option PV)} {st : Cel} (Q : Kp (List PV)) : @R.w _ (compL f [] st) Q = Q.run [] st := by with_unfolding_all rfl
theorem w_compL_cons {f : PV → Cel → R (Option PV)} {x : PV} {xs : List PV} {st : Cel} (Q : Kp (List PV)) : @R.w _ (compL f (x :: xs) st) Q = @R.w _ (f x st) ⟨fun o st => @R.w _ (compL f xs st) ⟨fun ys st => Q.run (o.toList ++ ys) st⟩⟩ := by
  rw [compL]
  cases f x st with
  | ok o s =>
    with_unfolding_all refine (R.w_bind ..).trans ?_
    with_unfolding_all change @R.w _ (compL f xs s) ⟨_⟩ = @R.w _ (compL f xs s) ⟨_⟩
    cases o <;> (with_unfolding_all rfl)
  | exc e s => with_unfolding_all rfl
  | bad => with_unfolding_all rfl
theorem flatL_eq {f : PV → Cel → R (List PV)} {x : PV} {xs : List PV} {st : Cel} : flatL f (x :: xs) st = (f x st).noexc.bind fun ys st => (flatL f xs st).bind fun zs st => .ok (ys ++ zs) st := by
  rw [flatL]; cases f x st <;> rfl
theorem w_flatL_nil {f : PV → Cel → R (List PV)} {st : Cel} (Q : Kp (List PV)) : @R.w _ (flatL f [] st) Q = Q.run [] st := by with_unfolding_all rfl
theorem w_flatL_cons {f : PV → Cel → R (List PV)} {x : PV} {xs : List PV} {st : Cel} (Q : Kp (List PV)) : @R.w _ (flatL f (x :: xs) st) Q = @R.w _ (f x st) ⟨fun ys st => @R.w _ (flatL f xs st) ⟨fun zs st => Q.run (ys ++ zs) st⟩⟩ := by
  rw [flatL_eq]
  cases f x st with
  | ok o s =>
    with_unfolding_all refine (R.w_bind ..).trans ?_
    with_unfolding_all refine (R.w_bind ..).trans ?_
    with_unfolding_all rfl
  | exc e s => with_unfolding_all rfl
  | bad => with_unfolding_all rfl
theorem flatL_w {f : PV → Cel → R (List PV)} {xs : List PV} {st : Cel} {Q : Kp (List PV)} (I : List PV → List PV → Cel → Prop) (h0 : I xs [] st)
    (hs : ∀ x r acc st, I (x :: r) acc st → @R.w _ (f x st) ⟨fun ys st' => I r (acc ++ ys) st'⟩) (hQ : ∀ ys st, I [] ys st → Q.run ys st) : @R.w _ (flatL f xs st) Q := by
  have key : ∀ (xs acc : List PV) (st : Cel), I xs acc st → @R.w _ (flatL f xs st) ⟨fun ys st' => Q.run (acc ++ ys) st'⟩ := by
    intro xs
    induction xs with
    | nil => intro acc st h; rw [w_flatL_nil]; exact (by simpa using hQ _ _ h)
    | cons x xs ih =>
      intro acc st h
      rw [w_flatL_cons]
      exact R.w_mono (hs _ _ _ _ h) fun ys st' q => R.w_mono (ih _ _ q) fun zs st2 q2 => by simpa using q2
  exact R.w_mono (key xs [] st h0) fun ys st' q => by simpa using q
theorem flatL_wmap {f : PV → Cel → R (List PV)} {xs : List PV} {st : Cel} {Q : Kp (List PV)} (g : PV → List PV) (h : ∀ x ∈ xs, f x st = .ok (g x) st) (q : Q.run (xs.flatMap g) st) : @R.w _ (flatL f xs st) Q := by
  have e : ∀ xs : List PV, (∀ x ∈ xs, f x st = .ok (g x) st) → flatL f xs st = .ok (xs.flatMap g) st := by
    intro xs
    induction xs with
    | nil => intro _; rfl
    | cons x xs ih =>
      intro h
      rw [flatL_eq, h x (List.mem_cons_self ..)]
      show (flatL f xs st).bind _ = _
      rw [ih fun y hy => h y (List.mem_cons_of_mem _ hy)]
      rfl
  rw [e xs h]; with_unfolding_all exact q
theorem flatL_wq {α : Type} {f : PV → Cel → R (List PV)} {qs : List α} {v : α → PV} {st : Cel} {Q : Kp (List PV)} (g : α → List PV) (h : ∀ x ∈ qs, f (v x) st = .ok (g x) st) (q : Q.run (qs.flatMap g) st) : @R.w _ (flatL f (qs.map v) st) Q := by
  have e : ∀ qs : List α, (∀ x ∈ qs, f (v x) st = .ok (g x) st) → flatL f (qs.map v) st = .ok (qs.flatMap g) st := by
    intro qs
    induction qs with
    | nil => intro _; rfl
    | cons x xs ih =>
      intro h
      rw [List.map_cons, flatL_eq, h x (List.mem_cons_self ..)]
      show (flatL f (xs.map v) st).bind _ = _
      rw [ih fun y hy => h y (List.mem_cons_of_mem _ hy)]
      rfl
  rw [e qs h]; with_unfolding_all exact q
theorem compL_wq {α : Type} {f : PV → Cel → R (Option PV)} {qs : List α} {v : α → PV} {st : Cel} {Q : Kp (List PV)} (g : α → PV) (h : ∀ x ∈ qs, f (v x) st = .ok (some (g x)) st) (q : Q.run (qs.map g) st) : @R.w _ (compL f (qs.map v) st) Q := by
  have e : ∀ qs : List α, (∀ x ∈ qs, f (v x) st = .ok (some (g x)) st) → compL f (qs.map v) st = .ok (qs.map g) st := by
    intro qs
    induction qs with
    | nil => intro _; rfl
    | cons x xs ih =>
      intro h
      rw [List.map_cons, compL, h x (List.mem_cons_self ..)]
      show (compL f (xs.map v) st).bind _ = _
      rw [ih fun y hy => h y (List.mem_cons_of_mem _ hy)]
      rfl
  rw [e qs h]; with_unfolding_all exact q
theorem compL_wnone {α : Type} {f : PV → Cel → R (Option PV)} {qs : List α} {v : α → PV} {st : Cel} {Q : Kp (List PV)} (h : ∀ x ∈ qs, f (v x) st = .ok none st) (q : Q.run [] st) : @R.w _ (compL f (qs.map v) st) Q := by
  have e : ∀ qs : List α, (∀ x ∈ qs, f (v x) st = .ok none st) → compL f (qs.map v) st = .ok [] st := by
    intro qs
    induction qs with
    | nil => intro _; rfl
    | cons x xs ih =>
      intro h
      rw [List.map_cons, compL, h x (List.mem_cons_self ..)]
      show (compL f (xs.map v) st).bind _ = _
      rw [ih fun y hy => h y (List.mem_cons_of_mem _ hy)]
      rfl
  rw [e qs h]; with_unfolding_all exact q
/-- a loop by its condition: what holds ahead of each test, by steps that are left -/
theorem whileL_w {t : En → Cel → R PV} {b : En → Cel → RS} {K : Kq} (I : Nat → En → Cel → Prop)
    (hs : ∀ m ρ st, I m ρ st → @R.w _ (t ρ st) ⟨fun x st => (x = .bl false ∧ K.N ρ st) ∨ (x = .bl true ∧ ∃ m', m = m' + 1 ∧ @RS.w (b ρ st) ⟨I m', K.T, K.N, I m'⟩)⟩) : ∀ (m : Nat) {F : Nat} {ρ : En} {st : Cel}, m < F → I m ρ st → @RS.w (whileL t b F ρ st) K := by
  intro m
  induction m with
  | zero =>
    intro F ρ st hF h0
    obtain ⟨F, rfl⟩ : ∃ G, F = G + 1 := ⟨F - 1, by omega⟩
    obtain ⟨x, s, e, q⟩ := R.w_eq (hs 0 ρ st h0)
    rw [whileL, e]
    rcases q with ⟨rfl, q⟩ | ⟨rfl, m', z, _⟩
    · with_unfolding_all exact q
    · omega
  | succ m ih =>
    intro F ρ st hF h0
    obtain ⟨F, rfl⟩ : ∃ G, F = G + 1 := ⟨F - 1, by omega⟩
    obtain ⟨x, s, e, q⟩ := R.w_eq (hs (m + 1) ρ st h0)
    rw [whileL, e]
    rcases q with ⟨rfl, q⟩ | ⟨rfl, m', z, q⟩
    · with_unfolding_all exact q
    · obtain rfl : m' = m := by omega
      show @RS.w (nextL (b ρ s) fun ρ1 st1 => whileL t b F ρ1 st1) K
      have q' : (b ρ s).wp (I m') K.T K.N (I m') := by with_unfolding_all exact q
      have : (nextL (b ρ s) fun ρ1 st1 => whileL t b F ρ1 st1).wp K.N K.T K.B K.C := by
        rw [RS.wp_nextL]
        refine RS.wp_mono q' (fun ρ st h => ?_) (fun _ _ h => h) (fun _ _ h => h) (fun ρ st h => ?_)
        · with_unfolding_all exact ih (by omega) h
        · with_unfolding_all exact ih (by omega) h
      with_unfolding_all exact this
/-- a loop whose test tells whether steps are left -/
theorem whileL_m {t : En → Cel → R PV} {b : En → Cel → RS} {K : Kq} (I : Nat → En → Cel → Prop) (ht : ∀ m ρ st, I m ρ st → @R.w _ (t ρ st) ⟨fun x st' => x = .bl (decide (0 < m)) ∧ st' = st⟩)
    (hs : ∀ m ρ st, I (m + 1) ρ st → @RS.w (b ρ st) ⟨I m, K.T, K.N, I m⟩) (hN : ∀ ρ st, I 0 ρ st → K.N ρ st) (m : Nat) {F : Nat} {ρ : En} {st : Cel} (hF : m < F) (h0 : I m ρ st) : @RS.w (whileL t b F ρ st) K := by
  refine whileL_w I (fun m ρ st h => R.w_mono (ht m ρ st h) fun x st' e => ?_) m hF h0
  obtain ⟨rfl, rfl⟩ := e
  cases m with
  | zero => exact .inl ⟨rfl, hN _ _ h⟩
  | succ m => exact .inr ⟨by simp, m, rfl, hs m _ _ h⟩
theorem w_forL_nil {f : PV → En → Cel → RS} {ρ : En} {st : Cel} (K : Kq) : @RS.w (forL f [] ρ st) K = K.N ρ st := by with_unfolding_all rfl
theorem w_forL_cons {f : PV → En → Cel → RS} {x : PV} {xs : List PV} {ρ : En} {st : Cel} (K : Kq) : @RS.w (forL f (x :: xs) ρ st) K = @RS.w (f x ρ st) ⟨fun ρ st => @RS.w (forL f xs ρ st) K, K.T, K.N, fun ρ st => @RS.w (forL f xs ρ st) K⟩ := by
  rw [forL]; with_unfolding_all exact RS.wp_nextL ..
/-- a run that is known to end in this -/
theorem R.w_is {α : Type} {r : R α} {a : α} {st : Cel} (h : @R.w α r ⟨fun x s => x = a ∧ s = st⟩) : r = .ok a st := by
  obtain ⟨x, s, e, h1, h2⟩ := R.w_eq h
  rw [e, h1, h2]
end Ev
namespace Ev
open PySem L2
/-! ### values, for simp -/
@[simp high] theorem gE0 {α : Type} (a : α) (l : List α) : (a :: l)[0]? = some a := rfl
@[simp high] theorem gE1 {α : Type} (a : α) (l : List α) (i : Nat) : (a :: l)[i + 1]? = l[i]? := rfl
@[simp] theorem set1_eq (ρ : En) (i : Nat) (v : PV) : set1 ρ i v = ρ.set i (.val v) := rfl
@[simp] theorem assignT_1 (i : Nat) (v : PV) (ρ : En) : assignT [i] v ρ = some (set1 ρ i v) := rfl
@[simp] theorem assignT_2t (i j : Nat) (v w : PV) (ρ : En) : assignT [i, j] (.tup [v, w]) ρ = some (set1 (set1 ρ i v) j w) := rfl
@[simp] theorem assignT_2l (i j : Nat) (v w : PV) (ρ : En) : assignT [i, j] (.lst [v, w]) ρ = some (set1 (set1 ρ i v) j w) := rfl
theorem low3 {i j k : Nat} (hi : i < 1000) (hj : j < 1000) (hk : k < 1000) : nested [i, j, k] = false := by
  simp [nested]; omega
@[simp] theorem assignT_3t (i j k : Nat) (v w x : PV) (ρ : En) (hi : i < 1000) (hj : j < 1000) (hk : k < 1000) : assignT [i, j, k] (.tup [v, w, x]) ρ = some (set1 (set1 (set1 ρ i v) j w) k x) := by
  unfold assignT; dsimp only; rw [low3 hi hj hk, if_neg (by decide)]; rfl
@[simp] theorem assignT_3l (i j k : Nat) (v w x : PV) (ρ : En) (hi : i < 1000) (hj : j < 1000) (hk : k < 1000) : assignT [i, j, k] (.lst [v, w, x]) ρ = some (set1 (set1 (set1 ρ i v) j w) k x) := by
  unfold assignT; dsimp only; rw [low3 hi hj hk, if_neg (by decide)]; rfl
@[simp] theorem assignT_g1 (i a b c : Nat) (x p q r : PV) (ρ : En) (hi : i < 1000) (ha : a < 1000) (hb : b < 1000) (hc : c < 1000) : assignT [i, 1003, a, b, c] (.tup [x, .tup [p, q, r]]) ρ = some (set1 (set1 (set1 (set1 ρ i x) a p) b q) c r) := by
  simp [assignT, nested, assignG, grpOk, flatG, flT, tupL, hi, ha, hb, hc]
@[simp] theorem assignT_g2 (i a b c : Nat) (x p q r : PV) (ρ : En) (hi : i < 1000) (ha : a < 1000) (hb : b < 1000) (hc : c < 1000) : assignT [1003, a, b, c, i] (.tup [.tup [p, q, r], x]) ρ = some (set1 (set1 (set1 (set1 ρ a p) b q) c r) i x) := by
  simp [assignT, nested, assignG, grpOk, flatG, flT, tupL, hi, ha, hb, hc]
@[simp] theorem lstG_lst (xs : List PV) : lstG (.lst xs) = some (.lst xs) := rfl
@[simp] theorem dkeysV_dtt (ks : List (List Key)) (xs : List PV) : dkeysV (.dtt ks xs) = some (.lst (ks.map fun k => .tup (k.map kP))) := rfl
@[simp] theorem wipeE_nil (ρ : En) : wipeE ρ [] = ρ := rfl
@[simp] theorem wipeE_cons (ρ : En) (v : Nat) (vs : List Nat) : wipeE ρ (v :: vs) = (wipeE ρ vs).set v .emp := rfl
@[simp] theorem itemsOf_lst (xs : List PV) : itemsOf (.lst xs) = some xs := rfl
@[simp] theorem itemsOf_tup (xs : List PV) : itemsOf (.tup xs) = some xs := rfl
@[simp] theorem itemsOf_rol (xs : List PV) : itemsOf (.rol xs) = some xs := rfl
@[simp] theorem itemsOf_dct (ks : List Key) (xs : List PV) : itemsOf (.dct ks xs) = some (ks.map kP) := rfl
@[simp] theorem starV_tup (xs : List PV) : starV (.tup xs) = some xs := rfl
@[simp] theorem starV_lst (xs : List PV) : starV (.lst xs) = some xs := rfl
@[simp] theorem zipV_tup (xs ys : List PV) : zipV (.tup xs) (.tup ys) = some (.lst ((xs.zip ys).map fun p => .tup [p.1, p.2])) := rfl
@[simp] theorem zipV_lst (xs ys : List PV) : zipV (.lst xs) (.lst ys) = some (.lst ((xs.zip ys).map fun p => .tup [p.1, p.2])) := rfl
@[simp] theorem ixV_lst (st : Cel) (xs : List PV) (i : Int) : ixV st (.lst xs) (.int i) = atP xs i := rfl
@[simp] theorem ixV_tup (st : Cel) (xs : List PV) (i : Int) : ixV st (.tup xs) (.int i) = atP xs i := rfl
@[simp] theorem ixV_rol (st : Cel) (xs : List PV) (i : Int) : ixV st (.rol xs) (.int i) = atP xs i := rfl
@[simp] theorem ixV_cell0 (xs : List PV) (st : Cel) (i : Int) : ixV (.lst xs :: st) (.cell 0) (.int i) = atP xs i := rfl
@[simp] theorem slV_lst (xs : List PV) (lo hi : Option Int) : slV (.lst xs) lo hi = some (.lst (cutP xs lo hi)) := rfl
@[simp] theorem slV_rol (xs : List PV) (lo hi : Option Int) : slV (.rol xs) lo hi = some (.lst (cutP xs lo hi)) := rfl
@[simp] theorem slV_tup (xs : List PV) (lo hi : Option Int) : slV (.tup xs) lo hi = some (.tup (cutP xs lo hi)) := rfl
@[simp] theorem lenV_lst (xs : List PV) : lenV (.lst xs) = some (.int xs.length) := rfl
@[simp] theorem lenV_tup (xs : List PV) : lenV (.tup xs) = some (.int xs.length) := rfl
@[simp] theorem lenV_rol (xs : List PV) : lenV (.rol xs) = some (.int xs.length) := rfl
@[simp] theorem tupleV_lst (xs : List PV) : tupleV (.lst xs) = some (.tup xs) := rfl
@[simp] theorem tupleV_tup (xs : List PV) : tupleV (.tup xs) = some (.tup xs) := rfl
@[simp] theorem listV_lst (xs : List PV) : listV (.lst xs) = some (.lst xs) := rfl
@[simp] theorem listV_tup (xs : List PV) : listV (.tup xs) = some (.lst xs) := rfl
@[simp] theorem negV_int (i : Int) : negV (.int i) = some (.int (-i)) := rfl
@[simp] theorem notV_bl (b : Bool) : notV (.bl b) = some (.bl (!b)) := rfl
@[simp] theorem toIntV_int (i : Int) : toIntV (.int i) = some (.int i) := rfl
@[simp] theorem isaV_int_int (i : Int) : isaV (.int i) .int = some true := rfl
@[simp] theorem isaV_int_bool (i : Int) : isaV (.int i) .bool = some false := rfl
@[simp] theorem isaV_bl_int (i : Bool) : isaV (.bl i) .int = some true := rfl
@[simp] theorem isaV_bl_bool (i : Bool) : isaV (.bl i) .bool = some true := rfl
@[simp] theorem isaV_tup_int (i : List PV) : isaV (.tup i) .int = some false := rfl
@[simp] theorem isaV_tup_tuple (i : List PV) : isaV (.tup i) .tuple = some true := rfl
@[simp] theorem isL_lst (xs : List PV) : isL (.lst xs) = true := rfl
theorem rng1V_int {i : Int} (h : 0 ≤ i) (h2 : i < 1000000000) : rng1V (.int i) = some (.lst (rngP 0 i)) := by
  unfold rng1V rOk
  simp
  omega
@[simp] theorem setCel_0 (xs : List PV) (st : Cel) (x : PV) (j : Int) : setCel (.lst xs :: st) x (.cell 0) (.int j) = (ixP xs.length j).map fun n => .lst (xs.set n x) :: st := by
  show (match ixP xs.length j with
      | some n => some ((PV.lst xs :: st).set 0 (.lst (xs.set n x)))
      | none => none) = _
  cases ixP xs.length j <;> rfl
def zs (xs : List Int) : List PV := xs.map PV.int
@[simp] theorem zs_nil : zs [] = [] := rfl
@[simp] theorem zs_cons (x : Int) (xs : List Int) : zs (x :: xs) = .int x :: zs xs := rfl
@[simp] theorem zs_length (xs : List Int) : (zs xs).length = xs.length := by simp [zs]
theorem dataL_zs (xs : List Int) : PV.dataL (zs xs) = some (xs.map PyData.int) := by
  induction xs with
  | nil => rfl
  | cons x xs ih => rw [zs_cons, PV.dataL, ih]; rfl
theorem canLay_ints (xs : List Int) : PyData.canLayAll0 (xs.map PyData.int) = true := by
  induction xs with
  | nil => simp [PyData.canLayAll0]
  | cons x xs ih => simp [PyData.canLayAll0, PyData.canLay0, ih]
theorem depth_ints (xs : List Int) : PyData.depthAll (xs.map PyData.int) = 0 := by
  induction xs with
  | nil => simp [PyData.depthAll]
  | cons x xs ih => simp [PyData.depthAll, PyData.depth, ih]
theorem shaped_list_ints (xs : List Int) : SeqAt.shaped (.list (xs.map PyData.int)) = true := by
  simp [SeqAt.shaped, PyData.canLay0, PyData.depth, canLay_ints, depth_ints]
@[simp] theorem eqV_int (i j : Int) : eqV (.int i) (.int j) = some (i == j) := by
  simp [eqV, scalE, eqD, PV.data, SeqAt.shaped, PyData.canLay0, PyData.depth, PyData.eqv]
@[simp] theorem eqV_str (i j : Str) : eqV (.str i) (.str j) = some (decide (i = j)) := rfl
@[simp] theorem eqV_bl (i j : Bool) : eqV (.bl i) (.bl j) = some (i == j) := by
  simp [eqV, scalE, eqD, PV.data, SeqAt.shaped, PyData.canLay0, PyData.depth, PyData.eqv]
theorem eqv_ints : ∀ xs ys : List Int, PyData.eqvAll (xs.map PyData.int) (ys.map PyData.int) = decide (xs = ys)
  | [], [] => by simp [PyData.eqvAll]
  | [], _ :: _ => by simp [PyData.eqvAll]
  | _ :: _, [] => by simp [PyData.eqvAll]
  | x :: xs, y :: ys => by
    simp only [List.map_cons, PyData.eqvAll, PyData.eqv, eqv_ints xs ys]
    by_cases h : x = y
    · subst h; simp
    · simp [h]
@[simp] theorem eqV_zl (xs ys : List Int) : eqV (.lst (zs xs)) (.lst (zs ys)) = some (decide (xs = ys)) := by
  simp [eqV, scalE, eqD, PV.data, dataL_zs, shaped_list_ints, PyData.eqv, eqv_ints]
@[simp] theorem eqV_zl0 (xs : List Int) : eqV (.lst (zs xs)) (.lst []) = some (decide (xs = [])) := eqV_zl xs []
@[simp] theorem eqV_nil : eqV (.lst []) (.lst []) = some true := eqV_zl [] []
theorem shaped_tup_ints (xs : List Int) : SeqAt.shaped (.tuple (xs.map PyData.int)) = true := by
  simp [SeqAt.shaped, PyData.canLay0, PyData.depth, canLay_ints, depth_ints]
@[simp] theorem eqV_zt (xs ys : List Int) : eqV (.tup (zs xs)) (.tup (zs ys)) = some (decide (xs = ys)) := by
  simp [eqV, scalE, eqD, PV.data, dataL_zs, shaped_tup_ints, PyData.eqv, eqv_ints]
theorem szOk_of {n : Nat} (h : n ≤ 10000) : szOk n = true := by
  unfold szOk
  rw [decide_eq_true_eq, sizeLine_eq]
  omega
@[simp] theorem szOk_0 : szOk 0 = true := szOk_of (by omega)
@[simp] theorem szOk_1 : szOk 1 = true := szOk_of (by omega)
@[simp] theorem szOk_2 : szOk 2 = true := szOk_of (by omega)
@[simp] theorem szOk_3 : szOk 3 = true := szOk_of (by omega)
@[simp] theorem szOk_4 : szOk 4 = true := szOk_of (by omega)
@[simp] theorem szOk_5 : szOk 5 = true := szOk_of (by omega)
@[simp] theorem szOk_6 : szOk 6 = true := szOk_of (by omega)
@[simp] theorem szOk_7 : szOk 7 = true := szOk_of (by omega)
@[simp] theorem szOk_8 : szOk 8 = true := szOk_of (by omega)
/-! the values of operators on ints -/
@[simp] theorem bin_add (i j : Int) : binV .add (.int i) (.int j) = some (.int (i + j)) := rfl
@[simp] theorem bin_sub (i j : Int) : binV .sub (.int i) (.int j) = some (.int (i - j)) := rfl
theorem bin_mul {i j : Int} (h : (-(2 ^ 64) < i ∧ i < 2 ^ 64) ∨ (-(2 ^ 64) < j ∧ j < 2 ^ 64)) : binV .mul (.int i) (.int j) = some (.int (i * j)) := by
  show (if ((-(2 ^ 64) < i && i < 2 ^ 64) || (-(2 ^ 64) < j && j < 2 ^ 64)) = true then some (PV.int (i * j)) else none) = _
  rw [if_pos (by simpa using h)]
theorem bin_fdiv {i j : Int} (h : 1 ≤ j) (h2 : j < 1000000000) : binV .fdiv (.int i) (.int j) = some (.int (i / j)) := by
  show (if j ≠ 0 ∧ j.natAbs < 1073741824 then some (PV.int (i.fdiv j)) else none) = _
  rw [if_pos ⟨by omega, by omega⟩, Int.fdiv_eq_ediv_of_nonneg _ (by omega)]
theorem bin_mod {i j : Int} (h : 1 ≤ j) : binV .mod (.int i) (.int j) = some (.int (i % j)) := by
  show (if j ≠ 0 then some (PV.int (i.fmod j)) else none) = _
  rw [if_pos (by omega), Int.fmod_eq_emod_of_nonneg _ (by omega)]
theorem bin_pow {i : Int} {k : Nat} (h : i.natAbs < 2 ^ 64) (hk : k ≤ 1000) : binV .pow (.int i) (.int (k : Nat)) = some (.int (i ^ k)) := by
  show (if 0 ≤ (k : Int) ∧ (k : Int) ≤ 1000000 ∧ i.natAbs < 2 ^ 64 then some (PV.int (i ^ (k : Int).toNat)) else none) = _
  rw [if_pos ⟨by omega, by omega, h⟩]
  rfl
@[simp] theorem cmp_lt (i j : Int) : cmpV .lt (.int i) (.int j) = some (decide (i < j)) := rfl
@[simp] theorem cmp_le (i j : Int) : cmpV .le (.int i) (.int j) = some (decide (i ≤ j)) := rfl
@[simp] theorem cmp_gt (i j : Int) : cmpV .gt (.int i) (.int j) = some (decide (j < i)) := rfl
@[simp] theorem cmp_ge (i j : Int) : cmpV .ge (.int i) (.int j) = some (decide (j ≤ i)) := rfl
@[simp] theorem cmp_eq (a b : PV) : cmpV .eq a b = eqV a b := by cases a <;> cases b <;> rfl
@[simp] theorem cmp_ne (a b : PV) : cmpV .ne a b = (eqV a b).map (!·) := by cases a <;> cases b <;> rfl
theorem atP_nat {xs : List PV} {i : Nat} (h : i < xs.length) : atP xs (i : Int) = xs[i]? := by
  show L2.atI _ _ = _
  unfold L2.atI L2.ixN
  rw [if_pos (by omega), if_pos (by omega)]
  simp
theorem atP_mem {xs : List PV} {i : Int} (h0 : 0 ≤ i) (h : i < xs.length) : ∃ x, atP xs i = some x ∧ x ∈ xs := by
  obtain ⟨k, rfl⟩ := Int.eq_ofNat_of_zero_le h0
  have hk : k < xs.length := by omega
  exact ⟨xs[k], by rw [atP_nat hk]; exact List.getElem?_eq_getElem hk, List.getElem_mem hk⟩
theorem ixP_nat {n i : Nat} (h : i < n) : ixP n (i : Int) = some i := by
  show L2.ixN _ _ = _
  unfold L2.ixN
  rw [if_pos (by omega), if_pos (by omega)]
  simp
@[simp] theorem atP_0 (x0 : PV) (l : List PV) : atP (x0 :: l) 0 = some x0 := atP_nat (i := 0) (by simp only [List.length_cons]; omega)
@[simp] theorem atP_1 (x0 x1 : PV) (l : List PV) : atP (x0 :: x1 :: l) 1 = some x1 := atP_nat (i := 1) (by simp only [List.length_cons]; omega)
@[simp] theorem atP_2 (x0 x1 x2 : PV) (l : List PV) : atP (x0 :: x1 :: x2 :: l) 2 = some x2 := atP_nat (i := 2) (by simp only [List.length_cons]; omega)
@[simp] theorem atP_3 (x0 x1 x2 x3 : PV) (l : List PV) : atP (x0 :: x1 :: x2 :: x3 :: l) 3 = some x3 := atP_nat (i := 3) (by simp only [List.length_cons]; omega)
@[simp] theorem atP_4 (x0 x1 x2 x3 x4 : PV) (l : List PV) : atP (x0 :: x1 :: x2 :: x3 :: x4 :: l) 4 = some x4 := atP_nat (i := 4) (by simp only [List.length_cons]; omega)
@[simp] theorem atP_5 (x0 x1 x2 x3 x4 x5 : PV) (l : List PV) : atP (x0 :: x1 :: x2 :: x3 :: x4 :: x5 :: l) 5 = some x5 := atP_nat (i := 5) (by simp only [List.length_cons]; omega)
@[simp] theorem atP_6 (x0 x1 x2 x3 x4 x5 x6 : PV) (l : List PV) : atP (x0 :: x1 :: x2 :: x3 :: x4 :: x5 :: x6 :: l) 6 = some x6 := atP_nat (i := 6) (by simp only [List.length_cons]; omega)
@[simp] theorem atP_7 (x0 x1 x2 x3 x4 x5 x6 x7 : PV) (l : List PV) : atP (x0 :: x1 :: x2 :: x3 :: x4 :: x5 :: x6 :: x7 :: l) 7 = some x7 := atP_nat (i := 7) (by simp only [List.length_cons]; omega)
@[simp] theorem atP_8 (x0 x1 x2 x3 x4 x5 x6 x7 x8 : PV) (l : List PV) : atP (x0 :: x1 :: x2 :: x3 :: x4 :: x5 :: x6 :: x7 :: x8 :: l) 8 = some x8 := atP_nat (i := 8) (by simp only [List.length_cons]; omega)
theorem ixP_0 {n : Nat} (h : 0 < n) : ixP n 0 = some 0 := ixP_nat h
theorem ixP_1 {n : Nat} (h : 1 < n) : ixP n 1 = some 1 := ixP_nat h
theorem ixP_2 {n : Nat} (h : 2 < n) : ixP n 2 = some 2 := ixP_nat h
theorem ixP_3 {n : Nat} (h : 3 < n) : ixP n 3 = some 3 := ixP_nat h
theorem ixP_4 {n : Nat} (h : 4 < n) : ixP n 4 = some 4 := ixP_nat h
@[simp] theorem ixP4_0 : ixP 4 0 = some 0 := rfl
@[simp] theorem ixP4_1 : ixP 4 1 = some 1 := rfl
@[simp] theorem ixP4_2 : ixP 4 2 = some 2 := rfl
@[simp] theorem ixP4_3 : ixP 4 3 = some 3 := rfl
theorem bin_pow3 {i : Int} (h1 : -1000000000000000000 < i) (h2 : i < 1000000000000000000) : binV .pow (.int i) (.int 3) = some (.int (i ^ 3)) := bin_pow (k := 3) (by omega) (by omega)
theorem bin_pow5 {i : Int} (h1 : -1000000000000000000 < i) (h2 : i < 1000000000000000000) : binV .pow (.int i) (.int 5) = some (.int (i ^ 5)) := bin_pow (k := 5) (by omega) (by omega)
@[simp] theorem bin_pow18 : binV .pow (.int 10) (.int 18) = some (.int 1000000000000000000) := by
  rw [show (18 : Int) = ((18 : Nat) : Int) from rfl, bin_pow (by omega) (by omega)]; rfl
theorem bin_mulc {i j : Int} (h1 : -1000000000000000000 < i) (h2 : i < 1000000000000000000) : binV .mul (.int i) (.int j) = some (.int (i * j)) := bin_mul (.inl ⟨by omega, by omega⟩)
theorem bin_cat {xs ys : List PV} (h : szOk (xs.length + ys.length) = true) : binV .add (.lst xs) (.lst ys) = some (.lst (xs ++ ys)) := if_pos h
theorem bin_catT {xs ys : List PV} (h : szOk (xs.length + ys.length) = true) : binV .add (.tup xs) (.tup ys) = some (.tup (xs ++ ys)) := if_pos h
@[simp] theorem enumV_tup (xs : List PV) : enumV (.tup xs) = some (.lst (enumP 0 xs)) := rfl
@[simp] theorem enumV_lst (xs : List PV) : enumV (.lst xs) = some (.lst (enumP 0 xs)) := rfl
@[simp] theorem enumP_nil (n : Nat) : enumP n [] = [] := rfl
@[simp] theorem enumP_cons (n : Nat) (x : PV) (xs : List PV) : enumP n (x :: xs) = .tup [.int (n : Nat), x] :: enumP (n + 1) xs := rfl
@[simp] theorem revV_lst (xs : List PV) : revV (.lst xs) = some (.lst xs.reverse) := rfl
@[simp] theorem lstOf_lst (xs : List PV) : lstOf (.lst xs) = some xs := rfl
@[simp] theorem isaV_str_str (s : Str) : isaV (.str s) .str = some true := rfl
@[simp] theorem isaV_int_str (s : Int) : isaV (.int s) .str = some false := rfl
@[simp] theorem isaV_tup_str (s : List PV) : isaV (.tup s) .str = some false := rfl
@[simp] theorem isaV_int_tuple (s : Int) : isaV (.int s) .tuple = some false := rfl
@[simp] theorem isaV_str_tuple (s : Str) : isaV (.str s) .tuple = some false := rfl
@[simp] theorem isaV_str_int (s : Str) : isaV (.str s) .int = some false := rfl
@[simp] theorem isaV_non_int  : isaV .non .int = some false := rfl
@[simp] theorem isaV_non_bool  : isaV .non .bool = some false := rfl
@[simp] theorem isaV_non_str  : isaV .non .str = some false := rfl
@[simp] theorem isaV_non_tuple  : isaV .non .tuple = some false := rfl
@[simp] theorem isaV_non_list  : isaV .non .list = some false := rfl
@[simp] theorem isaV_bl_str (i : Bool) : isaV (.bl i) .str = some false := rfl
@[simp] theorem isaV_bl_tuple (i : Bool) : isaV (.bl i) .tuple = some false := rfl
@[simp] theorem isaV_bl_list (i : Bool) : isaV (.bl i) .list = some false := rfl
@[simp] theorem isaV_int_list (i : Int) : isaV (.int i) .list = some false := rfl
@[simp] theorem isaV_str_bool (i : Str) : isaV (.str i) .bool = some false := rfl
@[simp] theorem isaV_str_list (i : Str) : isaV (.str i) .list = some false := rfl
@[simp] theorem isaV_tup_bool (i : List PV) : isaV (.tup i) .bool = some false := rfl
@[simp] theorem isaV_tup_list (i : List PV) : isaV (.tup i) .list = some false := rfl
@[simp] theorem isaV_lst_int (i : List PV) : isaV (.lst i) .int = some false := rfl
@[simp] theorem isaV_lst_bool (i : List PV) : isaV (.lst i) .bool = some false := rfl
@[simp] theorem isaV_lst_str (i : List PV) : isaV (.lst i) .str = some false := rfl
@[simp] theorem isaV_lst_tuple (i : List PV) : isaV (.lst i) .tuple = some false := rfl
@[simp] theorem isaV_lst_list (i : List PV) : isaV (.lst i) .list = some true := rfl
@[simp] theorem isa2V_eq (x : PV) (t u : Ty) : isa2V x t u = (match isaV x t, isaV x u with
  | some a, some b => some (a || b)
  | _, _ => none) := rfl
theorem cat_ok {xs ys : List PV} (h : szOk (xs.length + ys.length) = true) : catV (.lst xs) (.lst ys) = some (.lst (xs ++ ys)) := if_pos h
@[simp] theorem isD_dct (ks : List Key) (xs : List PV) : isD (.dct ks xs) = true := rfl
@[simp] theorem revTV_tup (xs : List PV) : revTV (.tup xs) = some (.tup xs.reverse) := rfl
@[simp] theorem itemsOf_str (s : Str) : itemsOf (.str s) = some (signsP s) := rfl
@[simp] theorem bin_addb (c : Bool) (j : Int) : binV .add (.bl c) (.int j) = some (.int ((if c then 1 else 0) + j)) := rfl
@[simp] theorem cutP_1 (x : PV) (xs : List PV) : cutP (x :: xs) (some 1) none = xs := by
  unfold cutP
  rw [show (1 : Int) = ((1 : Nat) : Int) from rfl, HT.sIx_nat, HT.sIx_none, show min 1 (x :: xs).length = 1 by simp, List.drop_one, List.tail_cons, List.take_of_length_le (by simp)]
theorem zs_snoc (p : List Int) (k : Int) : zs p ++ [.int k] = zs (p ++ [k]) := by simp [zs]
theorem last_snoc {α : Type} (xs : List α) (x : α) : (xs ++ [x])[(xs ++ [x]).length - 1]? = some x := by simp
end Ev
namespace Ev
open PySem L2
/-! ### repr of small data -/
mutual
def PV.sm : PV → Bool
  | .non => true
  | .bl _ => true
  | .int i => decide (i.natAbs < 10 ^ 100)
  | .str s => PyData.strOk s
  | .tup xs => PV.smL xs
  | .lst xs => PV.smL xs
  | _ => false
def PV.smL : List PV → Bool
  | [] => true
  | x :: xs => x.sm && PV.smL xs
end
mutual
def PV.bk : PV → Nat
  | .str s => s.cps.size
  | .tup xs => PV.bkL xs
  | .lst xs => PV.bkL xs
  | _ => 0
def PV.bkL : List PV → Nat
  | [] => 0
  | x :: xs => x.bk + 1 + PV.bkL xs
end
mutual
def PV.dp : PV → Nat
  | .tup xs => PV.dpL xs + 1
  | .lst xs => PV.dpL xs + 1
  | _ => 0
def PV.dpL : List PV → Nat
  | [] => 0
  | x :: xs => max x.dp (PV.dpL xs)
end
theorem log2_small {n : Nat} (h : n < 10 ^ 100) : n.log2 < 1920 := by
  by_cases h0 : n = 0
  · subst h0; decide
  · rw [Nat.log2_lt h0]
    exact Nat.lt_trans h (by
      calc 10 ^ 100 < 2 ^ 400 := by decide +kernel
        _ ≤ 2 ^ 1920 := Nat.pow_le_pow_right (by decide) (by decide))
theorem strOk_low {s : Str} (h : PyData.strOk s = true) : ∀ c ∈ s.cps.toList, c < 1114112 := by
  intro c hc
  have h' : s.cps.all (· < 0x110000) = true := h
  rw [Array.all_eq_true_iff_forall_mem] at h'
  exact of_decide_eq_true (h' c (by simpa using hc))
theorem strOk_of {s : Str} (h : ∀ c ∈ s.cps.toList, c < 1114112) : PyData.strOk s = true := by
  show s.cps.all (· < 0x110000) = true
  rw [Array.all_eq_true_iff_forall_mem]
  exact fun c hc => decide_eq_true (h c (by simpa using hc))
theorem int_text {i : Int} (h : i.natAbs < 10 ^ 100) : (Str.ofString (toString i)).length ≤ 101 := by
  have e := int_text_length_le10 (k := 100) (by decide) h
  rw [ofString_length]; exact e
mutual
theorem PV.sm_data : ∀ {a : PV}, a.sm = true → ∃ d, a.data = some d ∧ d.leavesShort 101 = true ∧ d.showable = true ∧ d.hasDict = false ∧ d.bulk = a.bk ∧ d.depth = a.dp ∧ d.canLay0 = true
  | .non, _ => ⟨_, rfl, rfl, rfl, rfl, rfl, rfl, rfl⟩
  | .bl _, _ => ⟨_, rfl, rfl, rfl, rfl, rfl, rfl, rfl⟩
  | .int i, h => by
    have h : i.natAbs < 10 ^ 100 := of_decide_eq_true h
    refine ⟨_, rfl, ?_, ?_, rfl, rfl, rfl, rfl⟩
    · show decide ((PyData.shown (.int i)).length ≤ 101) = true
      exact decide_eq_true (int_text h)
    · show decide (i.natAbs.log2 < 1920) = true
      exact decide_eq_true (log2_small h)
  | .str s, h => by
    refine ⟨_, rfl, ?_, rfl, rfl, rfl, rfl, h⟩
    show (s.cps.toList.all fun c => decide (c < 16 ^ 8)) = true
    rw [List.all_eq_true]
    intro c hc
    have := strOk_low h c hc
    exact decide_eq_true (by omega)
  | .tup xs, h => by
    obtain ⟨ds, e, h1, h2, h3, h4, h5, h6⟩ := PV.smL_data (xs := xs) h
    refine ⟨.tuple ds, by rw [PV.data, e]; rfl, h1, h2, h3, h4, ?_, h6⟩
    show PyData.depth _ = PV.dpL xs + 1
    rw [PyData.depth, h5]
  | .lst xs, h => by
    obtain ⟨ds, e, h1, h2, h3, h4, h5, h6⟩ := PV.smL_data (xs := xs) h
    refine ⟨.list ds, by rw [PV.data, e]; rfl, h1, h2, h3, h4, ?_, h6⟩
    show PyData.depth _ = PV.dpL xs + 1
    rw [PyData.depth, h5]
  | .rol _, h => by cases h
  | .cell _, h => by cases h
  | .dct _ _, h => by cases h
theorem PV.smL_data : ∀ {xs : List PV}, PV.smL xs = true → ∃ ds, PV.dataL xs = some ds ∧ PyData.leavesShortAll 101 ds = true ∧ PyData.showableAll ds = true ∧ PyData.hasDictAll ds = false ∧ PyData.bulkAll ds = PV.bkL xs ∧ PyData.depthAll ds = PV.dpL xs ∧ PyData.canLayAll0 ds = true
  | [], _ => ⟨_, rfl, rfl, rfl, rfl, rfl, rfl, rfl⟩
  | x :: xs, h => by
    rw [PV.smL, Bool.and_eq_true] at h
    obtain ⟨d, e, h1, h2, h3, h4, h5, h6⟩ := PV.sm_data h.1
    obtain ⟨ds, e', h1', h2', h3', h4', h5', h6'⟩ := PV.smL_data h.2
    refine ⟨d :: ds, by rw [PV.dataL, e, e'], ?_, ?_, ?_, ?_, ?_, by rw [PyData.canLayAll0, h6, h6']; rfl⟩
    · rw [PyData.leavesShortAll, h1, h1']; rfl
    · rw [PyData.showableAll, h2, h2']; rfl
    · rw [PyData.hasDictAll, h3, h3']; rfl
    · rw [PyData.bulkAll, h4, h4', PV.bkL]
    · rw [PyData.depthAll, h5, h5', PV.dpL]
end
/-- how large data is -/
structure B3 (n d : Nat) (a : PV) : Prop where
  sm : a.sm = true
  bk : a.bk ≤ n
  dp : a.dp ≤ d
theorem B3.mono {n n' d d' : Nat} {a : PV} (h : B3 n d a) (hn : n ≤ n') (hd : d ≤ d') : B3 n' d' a := ⟨h.sm, Nat.le_trans h.bk hn, Nat.le_trans h.dp hd⟩
theorem B3.int {i : Int} (h : i.natAbs < 10 ^ 100) {n d : Nat} : B3 n d (.int i) := ⟨decide_eq_true h, Nat.zero_le _, Nat.zero_le _⟩
theorem B3.bl {b : Bool} {n d : Nat} : B3 n d (.bl b) := ⟨rfl, Nat.zero_le _, Nat.zero_le _⟩
theorem B3.non {n d : Nat} : B3 n d .non := ⟨rfl, Nat.zero_le _, Nat.zero_le _⟩
theorem B3.all {n d : Nat} : ∀ {xs : List PV}, (∀ x ∈ xs, B3 n d x) → PV.smL xs = true ∧ PV.bkL xs ≤ xs.length * (n + 1) ∧ PV.dpL xs ≤ d
  | [], _ => ⟨rfl, Nat.le_of_eq (by simp [PV.bkL]), Nat.zero_le _⟩
  | x :: xs, h => by
    obtain ⟨h1, h2, h3⟩ := B3.all (xs := xs) fun y hy => h y (List.mem_cons_of_mem _ hy)
    have hx := h x (List.mem_cons_self ..)
    refine ⟨by rw [PV.smL, hx.sm, h1]; rfl, ?_, ?_⟩
    · rw [PV.bkL, List.length_cons, Nat.succ_mul]
      have := hx.bk
      omega
    · rw [PV.dpL]; exact Nat.max_le.mpr ⟨hx.dp, h3⟩
theorem B3.tup {n d m : Nat} {xs : List PV} (h : ∀ x ∈ xs, B3 n d x) (hm : xs.length * (n + 1) ≤ m) : B3 m (d + 1) (.tup xs) := by
  obtain ⟨h1, h2, h3⟩ := B3.all h
  exact ⟨h1, Nat.le_trans h2 hm, Nat.succ_le_succ h3⟩
theorem B3.lst {n d m : Nat} {xs : List PV} (h : ∀ x ∈ xs, B3 n d x) (hm : xs.length * (n + 1) ≤ m) : B3 m (d + 1) (.lst xs) := by
  obtain ⟨h1, h2, h3⟩ := B3.all h
  exact ⟨h1, Nat.le_trans h2 hm, Nat.succ_le_succ h3⟩
theorem reprV_of {a : PV} {n d : Nat} (h : B3 n d a) (hn : n ≤ 150000) (hd : d ≤ 60) : ∃ s, reprV a = some (.str s) := by
  obtain ⟨dd, e, h1, h2, h3, h4, h5, h6⟩ := PV.sm_data h.sm
  have hb := h.bk
  have hdp := h.dp
  have hs : dd.shown.length ≤ sizeLine := by
    have := PyData.shown_le_bulk 101 (by decide) dd h1
    rw [sizeLine_eq]
    rw [h4] at this
    have := Nat.mul_le_mul_left (101 + 2) (Nat.le_trans hb hn)
    omega
  refine ⟨dd.shown, ?_⟩
  unfold reprV
  rw [e]
  show (if _ then _ else _) = _
  rw [if_pos]
  simp only [Bool.and_eq_true, decide_eq_true_eq, Bool.not_eq_true']
  exact ⟨⟨⟨h2, h3⟩, by omega⟩, decide_eq_true hs⟩
/-! ### equality of small data -/
theorem B3.sh {a : PV} {n d : Nat} (h : B3 n d a) (hd : d ≤ 60) : ∃ dd, a.data = some dd ∧ SeqAt.shaped dd = true := by
  obtain ⟨dd, e, h1, h2, h3, h4, h5, h6⟩ := PV.sm_data h.sm
  have := h.dp
  refine ⟨dd, e, ?_⟩
  unfold SeqAt.shaped
  rw [h6, decide_eq_true (by omega)]
  rfl
theorem eqV_self {a : PV} {n d : Nat} (h : B3 n d a) (hd : d ≤ 60) : eqV a a = some true := by
  obtain ⟨dd, e, hs⟩ := h.sh hd
  unfold eqV
  have e2 : eqD a a = some true := by
    unfold eqD
    rw [e]
    show (if (SeqAt.shaped dd && SeqAt.shaped dd) = true then some (PyData.eqv dd dd) else none) = _
    rw [hs, SeqAt.eqv_refl dd (SeqAt.canLay_of_shaped hs)]
    rfl
  cases a <;> first
    | exact e2
    | (show some (decide (_ = _)) = _
       rw [decide_eq_true rfl])
theorem eqV_some {a b : PV} {n d m d' : Nat} (h : B3 n d a) (hd : d ≤ 60) (h' : B3 m d' b) (hd' : d' ≤ 60) : ∃ c, eqV a b = some c := by
  obtain ⟨dd, e, hs⟩ := h.sh hd
  obtain ⟨de, e', hs'⟩ := h'.sh hd'
  unfold eqV
  cases q : scalE a b with
  | some k => exact ⟨k, rfl⟩
  | none =>
    refine ⟨PyData.eqv dd de, ?_⟩
    show eqD a b = _
    unfold eqD
    rw [e, e']
    show (if (SeqAt.shaped dd && SeqAt.shaped de) = true then some (PyData.eqv dd de) else none) = _
    rw [hs, hs']
    rfl
/-! ### texts -/
/-- a text of at most n signs -/
structure TB (n : Nat) (s : Str) : Prop where
  len : s.length ≤ n
  low : ∀ c ∈ s.cps.toList, c < 1114112
theorem TB.mono {n m : Nat} {s : Str} (h : TB n s) (hm : n ≤ m) : TB m s := ⟨Nat.le_trans h.len hm, h.low⟩
theorem TB.append {n m : Nat} {s t : Str} (h : TB n s) (k : TB m t) : TB (n + m) (s ++ t) := by
  refine ⟨by rw [Str.length_append]; have := h.len; have := k.len; omega, fun c hc => ?_⟩
  have e : (s ++ t).cps = s.cps ++ t.cps := rfl
  rw [e, Array.toList_append, List.mem_append] at hc
  exact hc.elim (h.low c) (k.low c)
theorem TB.of (s : String) : TB s.length (Str.ofString s) := by
  refine ⟨Nat.le_of_eq (ofString_length s), fun c hc => ?_⟩
  rw [Str.ofString_eq_toList] at hc
  simp only [List.mem_map] at hc
  obtain ⟨ch, _, rfl⟩ := hc
  rcases ch.valid with h | h
  · show ch.val.toNat < _
    omega
  · exact h.2
theorem TB.lit {n : Nat} (s : String) (h : s.length ≤ n) : TB n (Str.ofString s) := (TB.of s).mono h
theorem TB.int {i : Int} (h : i.natAbs < 10 ^ 100) : TB 101 (Str.ofString (toString i)) := ⟨int_text h, (TB.of _).low⟩
theorem TB.pv {n d : Nat} {s : Str} (h : TB n s) : B3 n d (.str s) := ⟨strOk_of h.low, h.len, Nat.zero_le _⟩
theorem TB.join {n : Nat} {sep : Str} (hs : TB 1 sep) : ∀ {xs : List Str}, (∀ x ∈ xs, TB n x) → TB (xs.length * (n + 1)) (Str.join sep xs)
  | [], _ => ⟨Nat.zero_le _, fun c hc => by cases hc⟩
  | [x], h => (h x (List.mem_cons_self ..)).mono (by simp)
  | x :: y :: r, h => by
    have ih := TB.join hs (xs := y :: r) fun z hz => h z (List.mem_cons_of_mem _ hz)
    have := ((h x (List.mem_cons_self ..)).append hs).append ih
    refine TB.mono (s := Str.join sep (x :: y :: r)) this ?_
    simp only [List.length_cons, Nat.succ_mul, Nat.add_mul]
    omega
theorem TB.tjoin {n m : Nat} {sep : Str} {xs : List Str} (hs : TB 1 sep) (h : ∀ x ∈ xs, TB n x) (hm : xs.length * (n + 1) ≤ m) : TB m (Txt.join sep xs) := by
  unfold Txt.join
  rw [StrLaws.glued_eq_join]
  exact (TB.join hs h).mono hm
/-- repr of a text -/
theorem repr_str {s : Str} {n : Nat} (h : TB n s) (hn : n ≤ 1000000) : ∃ t, reprV (.str s) = some (.str t) := by
  have hl := h.len
  have h1 : (PyData.str s).leavesShort 13 = true := by
    show (s.cps.toList.all fun c => decide (c < 16 ^ 8)) = true
    rw [List.all_eq_true]
    intro c hc
    have := h.low c hc
    exact decide_eq_true (by omega)
  have hs : (PyData.str s).shown.length ≤ sizeLine := by
    have := PyData.shown_le_bulk 13 (by decide) (.str s) h1
    have e : (PyData.str s).bulk = s.length := rfl
    rw [e] at this
    rw [sizeLine_eq]
    omega
  refine ⟨(PyData.str s).shown, ?_⟩
  show (if _ then _ else _) = _
  rw [if_pos]
  have e1 : (PyData.str s).showable = true := rfl
  have e2 : (PyData.str s).hasDict = false := rfl
  have e3 : (PyData.str s).depth = 0 := rfl
  rw [e1, e2, e3]
  simp only [Bool.true_and, Bool.not_false, Bool.and_eq_true, decide_eq_true_eq]
  exact ⟨by omega, decide_eq_true hs⟩
theorem fmt_tb {acc s : Str} {n m : Nat} (h : TB n acc) (k : TB m s) (hl : n + m ≤ 100000) : fmtV acc (.str s) = some (acc ++ s) := by
  have := (h.append k).len
  show (if szOk (acc ++ s).length then some (acc ++ s) else none) = _
  rw [if_pos (by unfold szOk; rw [decide_eq_true_eq, sizeLine_eq]; omega)]
theorem str1_int {i : Int} (h : i.natAbs < 10 ^ 100) : str1V (.int i) = some (.str (toString i)) := by
  show (if i.natAbs.log2 < 1920 then some (PV.str (toString i)) else none) = _
  rw [if_pos (log2_small h)]
@[simp] theorem str1_str (s : Str) : str1V (.str s) = some (.str s) := rfl
theorem str_nil_append (s : Str) : Str.empty ++ s = s := by
  show Str.append _ _ = _
  unfold Str.append Str.empty
  simp
theorem fmt_str {acc s : Str} (h : (acc ++ s).length ≤ 100000) : fmtV acc (.str s) = some (acc ++ s) := by
  show (if szOk (acc ++ s).length then some (acc ++ s) else none) = _
  rw [if_pos (by unfold szOk; rw [decide_eq_true_eq, sizeLine_eq]; omega)]
theorem fmt_int {acc : Str} {i : Int} (hi : i.natAbs < 10 ^ 100) (h : (acc ++ Str.ofString (toString i)).length ≤ 100000) : fmtV acc (.int i) = some (acc ++ toString i) := by
  unfold fmtV
  rw [str1_int hi]
  show (if szOk (acc ++ Str.ofString (toString i)).length then some (acc ++ Str.ofString (toString i)) else none) = _
  rw [if_pos (by unfold szOk; rw [decide_eq_true_eq, sizeLine_eq]; omega)]
theorem strsP_map (xs : List Str) : strsP (xs.map PV.str) = some xs := by
  induction xs with
  | nil => rfl
  | cons x xs ih => rw [List.map_cons, strsP, ih]; rfl
theorem join_ok {sep : Str} {xs : List Str} {n : Nat} (hs : TB 1 sep) (h : ∀ x ∈ xs, TB n x) (hm : xs.length * (n + 1) ≤ 1000000) : joinV (.str sep) (.lst (xs.map PV.str)) = some (.str (Txt.join sep xs)) := by
  show (match strsP (xs.map PV.str) with
    | some (ys : List Str) => if (ys.map (fun s : Str => s.length)).sum + ys.length * sep.length ≤ 16777216 then some (PV.str (Txt.join sep ys)) else none
    | none => none) = _
  rw [strsP_map]
  show (if (xs.map (·.length)).sum + xs.length * sep.length ≤ 16777216 then some (PV.str (Txt.join sep xs)) else none) = _
  have key : ∀ xs : List Str, (∀ x ∈ xs, TB n x) → (xs.map (·.length)).sum + xs.length * sep.length ≤ xs.length * (n + 1) := by
    intro xs
    induction xs with
    | nil => intro _; simp
    | cons x xs ih =>
      intro h
      have h1 := ih fun y hy => h y (List.mem_cons_of_mem _ hy)
      have h2 := (h x (List.mem_cons_self ..)).len
      have h3 := hs.len
      simp only [List.map_cons, List.sum_cons, List.length_cons, Nat.succ_mul]
      omega
  have := key xs h
  rw [if_pos (by omega)]
theorem bin_catS {x y : Str} (h : x.length + y.length ≤ 1000000) : binV .add (.str x) (.str y) = some (.str (x ++ y)) := by
  show (if szOk (x.length + y.length) then some (PV.str (x ++ y)) else none) = _
  rw [if_pos (by unfold szOk; rw [decide_eq_true_eq, sizeLine_eq]; omega)]
end Ev
namespace Ev
open PySem L2
/-! ### instances, calls by keywords: for simp -/
section
variable {Φ : Nat → List PV → Cel → R PV} {ρ : En} {st : Cel} {Q : Kp PV}
theorem ev_attr (cn : Str) (a : C) (x : Str) : ev Φ (.attr cn a x) ρ st = (ev Φ a ρ st).bind fun o st => R.of (attrV cn x o) st := rfl
theorem ev_make (f : Nat) (es : Cs) : ev Φ (.make f es) ρ st = (evs Φ es ρ st).bind fun xs st => (Φ f xs st).noexc := rfl
theorem ev_meth (cn m : Str) (f : Nat) (a : C) (es : Cs) : ev Φ (.meth cn m f a es) ρ st = (ev Φ a ρ st).bind fun o st => if isObj cn m o then (evs Φ es ρ st).bind fun xs st => (Φ f (o :: xs) st).noexc else .bad := rfl
theorem ev_callK (f : Nat) (ks : List Str) (pm : List Nat) (es : Cs) : ev Φ (.callK f ks pm es) ρ st = (evs Φ es ρ st).bind fun xs st => if xs.length = ks.length then (R.of (permA xs pm) st).bind fun ys st => (Φ f ys st).noexc else .bad := by
  rw [ev]; congr; funext xs st; congr; cases permA xs pm <;> rfl
@[simp ↓] theorem w_attr (cn : Str) (a : C) (x : Str) : @R.w _ (ev Φ (.attr cn a x) ρ st) Q = @R.w _ (ev Φ a ρ st) ⟨fun o st => @R.w _ (R.of (attrV cn x o) st) Q⟩ := by rw [ev_attr, R.w_bind]
@[simp ↓] theorem w_make (f : Nat) (es : Cs) : @R.w _ (ev Φ (.make f es) ρ st) Q = @R.w _ (evs Φ es ρ st) ⟨fun xs st => @R.w _ (Φ f xs st) Q⟩ := by rw [ev_make]; with_unfolding_all refine (R.w_bind ..).trans ?_; cases evs Φ es ρ st <;> first | (with_unfolding_all rfl) | (with_unfolding_all exact R.w_noexc ..)
@[simp ↓] theorem w_meth (cn m : Str) (f : Nat) (a : C) (es : Cs) : @R.w _ (ev Φ (.meth cn m f a es) ρ st) Q = @R.w _ (ev Φ a ρ st) ⟨fun o st => isObj cn m o = true ∧ @R.w _ (evs Φ es ρ st) ⟨fun xs st => @R.w _ (Φ f (o :: xs) st) Q⟩⟩ := by
  rw [ev_meth, R.w_bind]
  congr; funext o st
  cases isObj cn m o with
  | false => rw [if_neg Bool.false_ne_true]; with_unfolding_all exact (by simp : False = (false = true ∧ _))
  | true =>
    rw [if_pos rfl]
    have : ∀ p : Prop, (true = true ∧ p) = p := fun p => by simp
    rw [this]
    with_unfolding_all refine (R.w_bind ..).trans ?_
    cases evs Φ es ρ st <;> first | (with_unfolding_all rfl) | (with_unfolding_all exact R.w_noexc ..)
@[simp ↓] theorem w_callK (f : Nat) (ks : List Str) (pm : List Nat) (es : Cs) : @R.w _ (ev Φ (.callK f ks pm es) ρ st) Q = @R.w _ (evs Φ es ρ st) ⟨fun xs st => xs.length = ks.length ∧ @R.w _ (R.of (permA xs pm) st) ⟨fun ys st => @R.w _ (Φ f ys st) Q⟩⟩ := by
  rw [ev_callK, R.w_bind]
  congr; funext xs st
  by_cases h : xs.length = ks.length
  · rw [if_pos h]
    have : ∀ p : Prop, (xs.length = ks.length ∧ p) = p := fun p => by simp [h]
    rw [this]
    with_unfolding_all refine (R.w_bind ..).trans ?_
    cases permA xs pm <;> first | (with_unfolding_all rfl) | (with_unfolding_all exact R.w_noexc ..)
  · rw [if_neg h]
    have : ∀ p : Prop, (xs.length = ks.length ∧ p) = False := fun p => by simp [h]
    rw [this]
    with_unfolding_all rfl
@[simp] theorem permA_nil {α : Type} (xs : List α) : permA xs [] = some [] := rfl
@[simp] theorem permA_cons {α : Type} (xs : List α) (i : Nat) (is : List Nat) : permA xs (i :: is) = (xs[i]?).bind fun x => (permA xs is).map (x :: ·) := by
  rw [permA]; cases xs[i]? <;> cases permA xs is <;> rfl
theorem e_nil {cn : Str} {ks : List Str} {xs : List PV} (h : Q.run (.obj cn ks xs) st) : @R.w _ (evI Φ cn [] ρ st ks xs) Q := by with_unfolding_all exact h
theorem e_ex {cn : Str} {ks : List Str} {xs : List PV} {e : C} {r : List II} (h : @R.w _ (ev Φ e ρ st) ⟨fun _ st => @R.w _ (evI Φ cn r ρ st ks xs) Q⟩) : @R.w _ (evI Φ cn (.ex e :: r) ρ st ks xs) Q := by
  rw [evI, R.w_bind]
  cases q : ev Φ e ρ st <;> rw [q] at h <;> with_unfolding_all exact h
theorem e_at {cn : Str} {ks : List Str} {xs : List PV} {x : Str} {e : C} {r : List II} (hx : ks.contains x = false) (h : @R.w _ (ev Φ e ρ st) ⟨fun t st => @R.w _ (evI Φ cn r ρ st (ks ++ [x]) (xs ++ [t])) Q⟩) : @R.w _ (evI Φ cn (.at_ x e :: r) ρ st ks xs) Q := by
  rw [evI, R.w_bind, hx]
  cases q : ev Φ e ρ st <;> rw [q] at h <;> with_unfolding_all exact h
end
end Ev
namespace Ev
open PySem L2
/-! ### comprehensions that choose -/
theorem compL_wf {α : Type} {f : PV → Cel → R (Option PV)} {qs : List α} {v : α → PV} {st : Cel} {Q : Kp (List PV)} (p : α → Bool) (g : α → PV) (h : ∀ x ∈ qs, f (v x) st = .ok (if p x then some (g x) else none) st) (q : Q.run ((qs.filter p).map g) st) : @R.w _ (compL f (qs.map v) st) Q := by
  have e : ∀ qs : List α, (∀ x ∈ qs, f (v x) st = .ok (if p x then some (g x) else none) st) → compL f (qs.map v) st = .ok ((qs.filter p).map g) st := by
    intro qs
    induction qs with
    | nil => intro _; rfl
    | cons x xs ih =>
      intro h
      rw [List.map_cons, compL, h x (List.mem_cons_self ..)]
      show (compL f (xs.map v) st).bind _ = _
      rw [ih fun y hy => h y (List.mem_cons_of_mem _ hy)]
      cases hp : p x <;> simp [hp]
  rw [e qs h]; with_unfolding_all exact q
/-! ### ranges and their products -/
def rgI (lo hi : Int) : List Int := (List.range (hi - lo).toNat).map fun k => lo + (k : Nat)
theorem rngP_eq (lo hi : Int) : rngP lo hi = (rgI lo hi).map PV.int := by simp [rngP, rgI]
theorem mem_rgI {lo hi x : Int} : x ∈ rgI lo hi ↔ lo ≤ x ∧ x < hi := by
  unfold rgI
  rw [List.mem_map]
  constructor
  · rintro ⟨k, hk, rfl⟩
    rw [List.mem_range] at hk
    omega
  · rintro ⟨h1, h2⟩
    exact ⟨(x - lo).toNat, by rw [List.mem_range]; omega, by omega⟩
theorem rgI_len (lo hi : Int) : (rgI lo hi).length = (hi - lo).toNat := by simp [rgI]
theorem rgI_sorted (lo hi : Int) : (rgI lo hi).Pairwise (· < ·) := by
  unfold rgI
  rw [List.pairwise_map]
  exact List.pairwise_lt_range.imp fun {a b} h => by omega
theorem rng2V_ok {lo hi : Int} (h1 : -1000000000 < lo) (h2 : lo < 1000000000) (h3 : -1000000000 < hi) (h4 : hi < 1000000000) : rng2V (.int lo) (.int hi) = some (.lst ((rgI lo hi).map .int)) := by
  unfold rng2V
  dsimp only
  rw [if_pos (by unfold rOk; simp; omega), rngP_eq]
def stp (acc : List (List Int)) (r : Int × Int) : List (List Int) := acc.flatMap fun s => (rgI r.1 r.2).map fun x => s ++ [x]
def stx (acc : List (List Int)) (R : List (Int × Int)) : List (List Int) := R.foldl stp acc
def fits : List (Int × Int) → List Int → Bool
  | [], [] => true
  | r :: R, x :: xs => decide (r.1 ≤ x) && decide (x < r.2) && fits R xs
  | _, _ => false
theorem fits_len : ∀ {R : List (Int × Int)} {xs : List Int}, fits R xs = true → xs.length = R.length
  | [], [], _ => rfl
  | r :: R, x :: xs, h => by
    rw [fits, Bool.and_eq_true] at h
    simp [fits_len h.2]
  | [], _ :: _, h => by cases h
  | _ :: _, [], h => by cases h
theorem mem_stx : ∀ (R : List (Int × Int)) (acc : List (List Int)) (xs : List Int), xs ∈ stx acc R ↔ ∃ s ∈ acc, ∃ t, xs = s ++ t ∧ fits R t = true
  | [], acc, xs => by
    constructor
    · intro h; exact ⟨xs, h, [], by simp, rfl⟩
    · rintro ⟨s, hs, t, rfl, ht⟩
      cases t with
      | nil => rw [List.append_nil]; exact hs
      | cons _ _ => cases ht
  | r :: R, acc, xs => by
    show xs ∈ stx (stp acc r) R ↔ _
    rw [mem_stx R]
    constructor
    · rintro ⟨s, hs, t, rfl, ht⟩
      unfold stp at hs
      rw [List.mem_flatMap] at hs
      obtain ⟨u, hu, hs⟩ := hs
      rw [List.mem_map] at hs
      obtain ⟨x, hx, rfl⟩ := hs
      rw [mem_rgI] at hx
      exact ⟨u, hu, x :: t, by simp, by rw [fits, decide_eq_true hx.1, decide_eq_true hx.2, ht]; rfl⟩
    · rintro ⟨s, hs, t, rfl, ht⟩
      cases t with
      | nil => cases ht
      | cons x t =>
        rw [fits, Bool.and_eq_true, Bool.and_eq_true, decide_eq_true_eq, decide_eq_true_eq] at ht
        refine ⟨s ++ [x], ?_, t, by simp, ht.2⟩
        unfold stp
        rw [List.mem_flatMap]
        exact ⟨s, hs, List.mem_map.mpr ⟨x, mem_rgI.mpr ht.1, rfl⟩⟩
theorem mem_st {R : List (Int × Int)} {xs : List Int} : xs ∈ stx [[]] R ↔ fits R xs = true := by
  rw [mem_stx]
  constructor
  · rintro ⟨s, hs, t, rfl, ht⟩
    cases List.mem_singleton.mp hs
    exact ht
  · intro h; exact ⟨[], List.mem_singleton.mpr rfl, xs, rfl, h⟩
theorem lt_app : ∀ {s t : List Int} {a b : List Int}, s.length = t.length → s < t → s ++ a < t ++ b
  | [], [], _, _, _, h => absurd h (List.lt_irrefl _)
  | x :: s, y :: t, a, b, hl, h => by
    rw [List.cons_append, List.cons_append]
    rw [List.cons_lt_cons_iff] at h ⊢
    rcases h with h | ⟨h1, h2⟩
    · exact .inl h
    · exact .inr ⟨h1, lt_app (by simpa using hl) h2⟩
  | [], _ :: _, _, _, hl, _ => by cases hl
  | _ :: _, [], _, _, hl, _ => by cases hl
theorem lt_same : ∀ (s : List Int) {x y : Int}, x < y → s ++ [x] < s ++ [y]
  | [], x, y, h => by show [x] < [y]; rw [List.cons_lt_cons_iff]; exact .inl h
  | a :: s, x, y, h => by rw [List.cons_append, List.cons_append, List.cons_lt_cons_iff]; exact .inr ⟨rfl, lt_same s h⟩
theorem stx_sorted : ∀ (R : List (Int × Int)) {acc : List (List Int)} {n : Nat}, (∀ s ∈ acc, s.length = n) → acc.Pairwise (· < ·) → (stx acc R).Pairwise (· < ·)
  | [], acc, n, _, h => h
  | r :: R, acc, n, hl, h => by
    refine stx_sorted R (acc := stp acc r) (n := n + 1) (fun s hs => ?_) ?_
    · unfold stp at hs
      rw [List.mem_flatMap] at hs
      obtain ⟨u, hu, hs⟩ := hs
      rw [List.mem_map] at hs
      obtain ⟨x, hx, rfl⟩ := hs
      simp [hl u hu]
    · unfold stp
      rw [List.pairwise_flatMap]
      refine ⟨fun s hs => ?_, ?_⟩
      · rw [List.pairwise_map]
        exact (rgI_sorted r.1 r.2).imp fun {a b} hab => lt_same s hab
      · refine (List.pairwise_iff_forall_sublist.mpr fun {a b} hab => ?_)
        intro x hx y hy
        rw [List.mem_map] at hx hy
        obtain ⟨x, _, rfl⟩ := hx
        obtain ⟨y, _, rfl⟩ := hy
        have ha : a ∈ acc := hab.subset (by simp)
        have hb : b ∈ acc := hab.subset (by simp)
        exact lt_app ((hl a ha).trans (hl b hb).symm) (List.pairwise_iff_forall_sublist.mp h hab)
theorem sset_sorted : ∀ {ks : List (List Int)}, ks.Pairwise (· < ·) → ssetR ks = ks
  | [], _ => rfl
  | k :: ks, h => by
    rw [List.pairwise_cons] at h
    show insR k (ssetR ks) = _
    rw [sset_sorted h.2]
    cases ks with
    | nil => rfl
    | cons m r =>
      have hm := h.1 m List.mem_cons_self
      show (if k = m then m :: r else if k < m then k :: m :: r else m :: insR k r) = _
      rw [if_neg (fun e => by subst e; exact List.lt_irrefl _ hm), if_pos hm]
/-! ### rows of ints as values -/
def row (xs : List Int) : PV := .tup (zs xs)
def rows (L : List (List Int)) : List PV := L.map row
theorem dataL_rows : ∀ L : List (List Int), PV.dataL (rows L) = some (L.map fun s => PyData.tuple (s.map PyData.int))
  | [] => rfl
  | x :: L => by
    show PV.dataL (row x :: rows L) = _
    rw [PV.dataL, dataL_rows L]
    unfold row
    rw [PV.data, dataL_zs]
    rfl
theorem canLay_rows : ∀ L : List (List Int), PyData.canLayAll0 (L.map fun s => PyData.tuple (s.map PyData.int)) = true
  | [] => by simp [PyData.canLayAll0]
  | x :: L => by
    rw [List.map_cons, PyData.canLayAll0, canLay_rows L, PyData.canLay0, canLay_ints]; rfl
theorem depth_rows : ∀ L : List (List Int), PyData.depthAll (L.map fun s => PyData.tuple (s.map PyData.int)) ≤ 1
  | [] => by simp [PyData.depthAll]
  | x :: L => by
    rw [List.map_cons, PyData.depthAll, PyData.depth, depth_ints]
    have := depth_rows L
    omega
theorem shaped_rows (L : List (List Int)) : SeqAt.shaped (.list (L.map fun s => PyData.tuple (s.map PyData.int))) = true := by
  have := depth_rows L
  unfold SeqAt.shaped
  rw [PyData.canLay0, canLay_rows, PyData.depth, Bool.true_and, decide_eq_true_eq]
  omega
theorem eqv_rows : ∀ L M : List (List Int), PyData.eqvAll (L.map fun s => PyData.tuple (s.map PyData.int)) (M.map fun s => PyData.tuple (s.map PyData.int)) = decide (L = M)
  | [], [] => by simp [PyData.eqvAll]
  | [], _ :: _ => by simp [PyData.eqvAll]
  | _ :: _, [] => by simp [PyData.eqvAll]
  | x :: xs, y :: ys => by
    simp only [List.map_cons, PyData.eqvAll, PyData.eqv, eqv_rows xs ys, eqv_ints]
    by_cases h : x = y
    · subst h; simp
    · simp [h]
theorem eqV_rows (L M : List (List Int)) : eqV (.lst (rows L)) (.lst (rows M)) = some (decide (L = M)) := by
  simp [eqV, scalE, eqD, PV.data, dataL_rows, shaped_rows, PyData.eqv, eqv_rows]
theorem eqV_rows0 (L : List (List Int)) : eqV (.lst (rows L)) (.lst []) = some (decide (L = [])) := eqV_rows L []
@[simp] theorem eqV_row (xs ys : List Int) : eqV (row xs) (row ys) = some (decide (xs = ys)) := eqV_zt xs ys
theorem inV_rows (xs : List Int) (L : List (List Int)) : inV (row xs) (.lst (rows L)) = some (decide (xs ∈ L)) := by
  have e : (L.map fun s => PyData.tuple (s.map PyData.int)).any (fun z => PyData.eqv z (.tuple (xs.map PyData.int))) = decide (xs ∈ L) := by
    rw [List.any_map]
    induction L with
    | nil => simp
    | cons y L ih =>
      rw [List.any_cons, ih]
      simp only [Function.comp, PyData.eqv, eqv_ints]
      by_cases h : y = xs
      · subst h; simp
      · have : ¬ xs = y := fun z => h z.symm
        simp [h, this]
  unfold inV row
  simp only [PV.data, dataL_zs, Option.map, dataL_rows, inL, shaped_tup_ints, shaped_rows, Bool.and_self, if_true, e]
theorem rowsP_rows : ∀ L : List (List Int), rowsP (rows L) = some L
  | [] => rfl
  | x :: L => by
    have : ∀ xs : List Int, intsP (zs xs) = some xs := by
      intro xs
      induction xs with
      | nil => rfl
      | cons x xs ih => rw [zs_cons, intsP, ih]; rfl
    show rowsP (.tup (zs x) :: rows L) = _
    rw [rowsP, this, rowsP_rows L]
theorem ssetV_rows {L : List (List Int)} (h : L.length < 64) (hne : ∀ s ∈ L, s ≠ []) (hs : L.Pairwise (· < ·)) : ssetV (.lst (rows L)) = some (.lst (rows L)) := by
  unfold ssetV
  dsimp only
  rw [rowsP_rows]
  dsimp only
  rw [if_pos, sset_sorted hs]
  · rfl
  · rw [Bool.and_eq_true, decide_eq_true_eq, List.all_eq_true]
    exact ⟨h, fun s hs => by simpa using hne s hs⟩
/-! ### data that may be compared -/
def SH (d : Nat) (a : PV) : Prop := ∃ dd, a.data = some dd ∧ dd.canLay0 = true ∧ dd.depth ≤ d
theorem SH.mono {d d' : Nat} {a : PV} (h : SH d a) (hd : d ≤ d') : SH d' a := by
  obtain ⟨dd, h1, h2, h3⟩ := h
  exact ⟨dd, h1, h2, by omega⟩
theorem SH.int (i : Int) (d : Nat) : SH d (.int i) := ⟨.int i, rfl, by simp [PyData.canLay0], by simp [PyData.depth]⟩
theorem SH.str {s : Str} (h : PyData.strOk s = true) (d : Nat) : SH d (.str s) := ⟨.str s, rfl, by simpa [PyData.canLay0] using h, by simp [PyData.depth]⟩
theorem SH.all : ∀ {xs : List PV} {d : Nat}, (∀ x ∈ xs, SH d x) → ∃ ds, PV.dataL xs = some ds ∧ PyData.canLayAll0 ds = true ∧ PyData.depthAll ds ≤ d ∧ ds.length = xs.length
  | [], d, _ => ⟨[], rfl, by simp [PyData.canLayAll0], by simp [PyData.depthAll], rfl⟩
  | x :: xs, d, h => by
    obtain ⟨dd, h1, h2, h3⟩ := h x List.mem_cons_self
    obtain ⟨ds, g1, g2, g3, g4⟩ := SH.all fun y hy => h y (List.mem_cons_of_mem _ hy)
    refine ⟨dd :: ds, by rw [PV.dataL, h1, g1], by rw [PyData.canLayAll0, h2, g2]; rfl, by rw [PyData.depthAll]; omega, by simp [g4]⟩
theorem SH.tup {xs : List PV} {d : Nat} (h : ∀ x ∈ xs, SH d x) : SH (d + 1) (.tup xs) := by
  obtain ⟨ds, g1, g2, g3, g4⟩ := SH.all h
  exact ⟨.tuple ds, by rw [PV.data, g1]; rfl, by rw [PyData.canLay0]; exact g2, by rw [PyData.depth]; omega⟩
theorem eqV_nilr {xs : List PV} {d : Nat} (h : ∀ x ∈ xs, SH d x) (hd : d ≤ 60) : eqV (.lst xs) (.lst []) = some xs.isEmpty := by
  obtain ⟨ds, g1, g2, g3, g4⟩ := SH.all h
  have s1 : SeqAt.shaped (.list ds) = true := by
    unfold SeqAt.shaped
    rw [PyData.canLay0, g2, PyData.depth, Bool.true_and, decide_eq_true_eq]
    omega
  have e : PyData.eqvAll ds [] = xs.isEmpty := by
    cases ds with
    | nil => cases xs with
      | nil => simp [PyData.eqvAll]
      | cons _ _ => simp at g4
    | cons _ _ => cases xs with
      | nil => simp at g4
      | cons _ _ => simp [PyData.eqvAll]
  have s2 : SeqAt.shaped (.list []) = true := by decide +kernel
  unfold eqV scalE eqD
  simp only [PV.data, g1, PV.dataL, Option.map, s1, s2, Bool.and_self, if_true, PyData.eqv, e]
theorem eqvAll_strs : ∀ ss tt : List Str, PyData.eqvAll (ss.map PyData.str) (tt.map PyData.str) = decide (ss = tt)
  | [], [] => by simp [PyData.eqvAll]
  | [], _ :: _ => by simp [PyData.eqvAll]
  | _ :: _, [] => by simp [PyData.eqvAll]
  | x :: xs, y :: ys => by
    simp only [List.map_cons, PyData.eqvAll, PyData.eqv, eqvAll_strs xs ys]
    by_cases h : x = y
    · subst h; simp
    · simp [h]
theorem dataL_strs : ∀ ss : List Str, PV.dataL (ss.map PV.str) = some (ss.map PyData.str)
  | [] => rfl
  | s :: ss => by rw [List.map_cons, PV.dataL, dataL_strs ss]; rfl
theorem shaped_strs {ss : List Str} (h : ∀ s ∈ ss, PyData.strOk s = true) : SeqAt.shaped (.tuple (ss.map PyData.str)) = true := by
  have h1 : PyData.canLayAll0 (ss.map PyData.str) = true ∧ PyData.depthAll (ss.map PyData.str) = 0 := by
    induction ss with
    | nil => simp [PyData.canLayAll0, PyData.depthAll]
    | cons s ss ih =>
      obtain ⟨a, b⟩ := ih fun t ht => h t (List.mem_cons_of_mem _ ht)
      rw [List.map_cons, PyData.canLayAll0, PyData.depthAll, a, b, PyData.canLay0, PyData.depth, h s List.mem_cons_self]
      exact ⟨rfl, rfl⟩
  simp [SeqAt.shaped, PyData.canLay0, PyData.depth, h1.1, h1.2]
theorem eqV_strs {ss tt : List Str} (h : ∀ s ∈ ss, PyData.strOk s = true) (h' : ∀ s ∈ tt, PyData.strOk s = true) : eqV (.tup (ss.map .str)) (.tup (tt.map .str)) = some (decide (ss = tt)) := by
  simp [eqV, scalE, eqD, PV.data, dataL_strs, shaped_strs h, shaped_strs h', PyData.eqv, eqvAll_strs]
theorem allB_bl : ∀ bs : List Bool, allB (bs.map PV.bl) = some bs
  | [] => rfl
  | b :: bs => by rw [List.map_cons, allB, allB_bl bs]; rfl
@[simp] theorem allV_bl (bs : List Bool) : allV (.lst (bs.map PV.bl)) = some (.bl (bs.all id)) := by unfold allV; dsimp only; rw [allB_bl]; rfl
@[simp] theorem anyV_bl (bs : List Bool) : anyV (.lst (bs.map PV.bl)) = some (.bl (bs.any id)) := by unfold anyV; dsimp only; rw [allB_bl]; rfl
end Ev
namespace Ev
open PySem L2
/-! ### loops over things that are drawn; what holds is kept out of simp's sight -/
class Iv (α : Type) where
  run : List α → En → Cel → Prop
@[irreducible] def Iv.r {α : Type} [I : Iv α] (r : List α) (ρ : En) (st : Cel) : Prop := I.run r ρ st
theorem Iv.i {α : Type} {I : Iv α} {r : List α} {ρ : En} {st : Cel} (h : I.run r ρ st) : @Iv.r α I r ρ st := by unfold Iv.r; exact h
theorem Iv.e {α : Type} {I : Iv α} {r : List α} {ρ : En} {st : Cel} (h : @Iv.r α I r ρ st) : I.run r ρ st := by unfold Iv.r at h; exact h
theorem forL_q {α : Type} {f : PV → En → Cel → RS} {v : α → PV} {K : Kq} (I : Iv α) : ∀ {qs : List α} {ρ : En} {st : Cel}, I.run qs ρ st →
    (∀ x r ρ st, I.run (x :: r) ρ st → @RS.w (f (v x) ρ st) ⟨@Iv.r α I r, K.T, K.N, @Iv.r α I r⟩) → (∀ ρ st, I.run [] ρ st → K.N ρ st) → @RS.w (forL f (qs.map v) ρ st) K
  | [], ρ, st, h0, _, hN => by rw [List.map_nil, w_forL_nil]; exact hN _ _ h0
  | x :: qs, ρ, st, h0, hs, hN => by
    rw [List.map_cons, w_forL_cons]
    exact RS.w_mono (hs x qs ρ st h0) (fun ρ st h => forL_q I (Iv.e h) hs hN) (fun _ _ h => h) (fun _ _ h => h) (fun ρ st h => forL_q I (Iv.e h) hs hN)
/-- the same in a comprehension that draws -/
class Ic (α : Type) where
  run : List α → List PV → Cel → Prop
@[irreducible] def Ic.r {α : Type} [I : Ic α] (r : List α) (acc : List PV) (st : Cel) : Prop := I.run r acc st
theorem Ic.i {α : Type} {I : Ic α} {r : List α} {acc : List PV} {st : Cel} (h : I.run r acc st) : @Ic.r α I r acc st := by unfold Ic.r; exact h
theorem Ic.e {α : Type} {I : Ic α} {r : List α} {acc : List PV} {st : Cel} (h : @Ic.r α I r acc st) : I.run r acc st := by unfold Ic.r at h; exact h
theorem compL_q {α : Type} {f : PV → Cel → R (Option PV)} {v : α → PV} {qs : List α} {st : Cel} {Q : Kp (List PV)} (I : Ic α) (h0 : I.run qs [] st)
    (hs : ∀ x r acc st, I.run (x :: r) acc st → @R.w _ (f (v x) st) ⟨fun o st' => @Ic.r α I r (acc ++ o.toList) st'⟩) (hQ : ∀ ys st, I.run [] ys st → Q.run ys st) : @R.w _ (compL f (qs.map v) st) Q := by
  have key : ∀ (qs : List α) (acc : List PV) (st : Cel), I.run qs acc st → @R.w _ (compL f (qs.map v) st) ⟨fun ys st' => Q.run (acc ++ ys) st'⟩ := by
    intro qs
    induction qs with
    | nil => intro acc st h; rw [List.map_nil, w_compL_nil]; exact (by simpa using hQ _ _ h)
    | cons x qs ih =>
      intro acc st h
      rw [List.map_cons, w_compL_cons]
      exact R.w_mono (hs _ _ _ _ h) fun o st' q => R.w_mono (ih _ _ (Ic.e q)) fun zs st2 q2 => by simpa using q2
  exact R.w_mono (key qs [] st h0) fun ys st' q => by simpa using q
/-! ### how large data is: rows -/
structure B3L (n d : Nat) (xs : List PV) : Prop where
  sm : PV.smL xs = true
  bk : PV.bkL xs ≤ n
  dp : PV.dpL xs ≤ d
theorem B3L.nil {n d : Nat} : B3L n d [] := ⟨rfl, Nat.zero_le _, Nat.zero_le _⟩
theorem B3L.cons {n m k d : Nat} {x : PV} {xs : List PV} (h : B3 n d x) (hs : B3L m d xs) (hk : n + 1 + m ≤ k) : B3L k d (x :: xs) := by
  refine ⟨by rw [PV.smL, h.sm, hs.sm]; rfl, ?_, ?_⟩
  · rw [PV.bkL]; have := h.bk; have := hs.bk; omega
  · rw [PV.dpL]; exact Nat.max_le.mpr ⟨h.dp, hs.dp⟩
theorem B3L.tup {n d e : Nat} {xs : List PV} (h : B3L n d xs) (he : d + 1 ≤ e) : B3 n e (.tup xs) := ⟨h.sm, h.bk, by rw [PV.dp]; have := h.dp; omega⟩
theorem B3L.lst {n d e : Nat} {xs : List PV} (h : B3L n d xs) (he : d + 1 ≤ e) : B3 n e (.lst xs) := ⟨h.sm, h.bk, by rw [PV.dp]; have := h.dp; omega⟩
theorem B3L.of {n d m : Nat} {xs : List PV} (h : ∀ x ∈ xs, B3 n d x) (hm : xs.length * (n + 1) ≤ m) : B3L m d xs := by
  obtain ⟨h1, h2, h3⟩ := B3.all h
  exact ⟨h1, Nat.le_trans h2 hm, h3⟩
theorem B3.str {n d : Nat} {s : Str} (h : PyData.strOk s = true) (hl : s.length ≤ n) : B3 n d (.str s) := ⟨h, hl, Nat.zero_le _⟩
theorem B3.ints {n d : Nat} {xs : List Int} (h : ∀ x ∈ xs, x.natAbs ≤ 1000000000) (hm : xs.length ≤ n) (hd : 1 ≤ d) : B3 n d (.tup (zs xs)) := by
  refine (B3.tup (n := 0) (d := 0) (m := n) (fun x hx => ?_) (by rw [zs_length]; omega)).mono (Nat.le_refl _) hd
  unfold zs at hx
  rw [List.mem_map] at hx
  obtain ⟨i, hi, rfl⟩ := hx
  exact B3.int (Nat.lt_of_le_of_lt (h i hi) (by decide +kernel))
/-- two reprs of one thing are alike -/
theorem bin_rep2 (x : PV) : binV .mul (.lst [x]) (.int 2) = some (.lst [x, x]) := rfl
end Ev
namespace K19
open PySem L2 Ev
def topS (i : Nat) : Stmt := PySem.Challenge.pw_ownrights_k19_clashes_told.main.body.getD i (.Pass ⟨0, 0, 0, 0⟩)
def methS (i j : Nat) : Stmt := match topS i with
  | .ClassDef _ _ _ body _ _ _ _ _ _ _ => body.getD j (.Pass ⟨0, 0, 0, 0⟩)
  | _ => .Pass ⟨0, 0, 0, 0⟩
def b_sums_by_key : Ss :=
  (.cons (.ret (.dcomp2 (.var 1) (.var 3) (.var 4) [1, 2] (.ix (.var 0) (.int 2)) [3, 4] (.var 2) [1, 2, 3, 4] [3, 4]))
  .nil)
def D_sums_by_key : DefD := { nm := "sums_by_key", ps := ["store"], pv := none, N := ["store", "hand", "deeds", "deed", "change"], fr := false, rf := true, gen := false, st := topS 5, body := b_sums_by_key }
def b_all_keys : Ss :=
  (.cons (.ret (.tupleOf (.dkeys (.call 0 (.cons (.var 0) .nil)))))
  .nil)
def D_all_keys : DefD := { nm := "all_keys", ps := ["store"], pv := none, N := ["store"], fr := false, rf := true, gen := false, st := topS 6, body := b_all_keys }
def b_require_keys : Ss :=
  (.cons (.asg [2] (.call 1 (.cons (.var 0) .nil)))
  (.cons (.for_ [3] (.var 1)
    (.cons (.if_ (.not (.any (.comp (.cmp .eq (.var 4) (.var 3)) [4] (.var 2) .nil [4])))
    (.cons (.never)
    .nil)
    .nil)
    .nil))
  .nil))
def D_require_keys : DefD := { nm := "require_keys", ps := ["store"], pv := some "keys", N := ["store", "keys", "known", "key", "own"], fr := false, rf := true, gen := false, st := topS 7, body := b_require_keys }
def b_sum_of : Ss :=
  (.cons (.expr (.call 2 (.cons (.var 0) (.cons (.var 1) .nil))))
  (.cons (.ret (.dgetT (.call 0 (.cons (.var 0) .nil)) (.var 1)))
  .nil))
def D_sum_of : DefD := { nm := "sum_of", ps := ["store", "key"], pv := none, N := ["store", "key"], fr := false, rf := true, gen := false, st := topS 8, body := b_sum_of }
def b_added : Ss :=
  (.cons (.asg [2] (.var 0))
  (.cons (.for_ [3] (.var 1)
    (.cons (.asg [2] (.tupleOf (.comp (.bin .add (.var 4) (.var 5)) [4, 5] (.zip2 (.var 2) (.var 3)) .nil [4, 5])))
    .nil))
  (.cons (.ret (.var 2))
  .nil)))
def D_added : DefD := { nm := "added", ps := ["one"], pv := some "others", N := ["one", "others", "found", "other", "here", "there"], fr := false, rf := true, gen := false, st := topS 10, body := b_added }
def b_is_integer : Ss :=
  (.cons (.ret (.and (.isa (.var 0) .int) (.not (.isa (.var 0) .bool))))
  .nil)
def D_is_integer : DefD := { nm := "is_integer", ps := ["thing"], pv := none, N := ["thing"], fr := false, rf := true, gen := false, st := topS 12, body := b_is_integer }
def b_are_integers : Ss :=
  (.cons (.ret (.and (.isa (.var 0) .tuple) (.all (.comp (.call 5 (.cons (.var 1) .nil)) [1] (.var 0) .nil [1]))))
  .nil)
def D_are_integers : DefD := { nm := "are_integers", ps := ["thing"], pv := none, N := ["thing", "one"], fr := false, rf := true, gen := false, st := topS 13, body := b_are_integers }
def b_is_sum : Ss :=
  (.cons (.ret (.and (.call 6 (.cons (.var 0) .nil)) (.cmp .eq (.len (.var 0)) (.var 1))))
  .nil)
def D_is_sum : DefD := { nm := "is_sum", ps := ["thing", "many"], pv := none, N := ["thing", "many"], fr := false, rf := true, gen := false, st := topS 14, body := b_is_sum }
def b_names_of : Ss :=
  (.cons (.ret (.comp (.ix (.var 1) (.int 0)) [1] (.var 0) .nil [1]))
  .nil)
def D_names_of : DefD := { nm := "names_of", ps := ["items"], pv := none, N := ["items", "own"], fr := false, rf := true, gen := false, st := topS 16, body := b_names_of }
def b_value_in : Ss :=
  (.cons (.if_ (.call 5 (.cons (.var 2) .nil))
    (.cons (.ret (.var 2))
    .nil)
    .nil)
  (.cons (.ustar [3, 4] 7 (.var 2))
  (.cons (.if_ (.cmp .eq (.var 3) (.str "item"))
    (.cons (.ret (.ix (.var 1) (.indexOf (.call 8 (.cons (.var 0) .nil)) (.var 4))))
    .nil)
    .nil)
  (.cons (.par [5, 6] (.cons (.call 9 (.cons (.var 0) (.cons (.var 1) (.cons (.var 4) .nil)))) (.cons (.call 9 (.cons (.var 0) (.cons (.var 1) (.cons (.ix (.var 7) (.int 0)) .nil)))) .nil)))
  (.cons (.if_ (.cmp .eq (.var 3) (.str "+"))
    (.cons (.ret (.bin .add (.var 5) (.var 6)))
    .nil)
    .nil)
  (.cons (.ret (.ite (.cmp .eq (.var 3) (.str "-")) (.bin .sub (.var 5) (.var 6)) (.bin .mul (.var 5) (.var 6))))
  .nil))))))
def D_value_in : DefD := { nm := "value_in", ps := ["items", "state", "count"], pv := none, N := ["items", "state", "count", "word", "first", "one", "other", "rest"], fr := false, rf := true, gen := false, st := topS 18, body := b_value_in }
def b_holds_in : Ss :=
  (.cons (.ustar [3, 4] 7 (.var 2))
  (.cons (.if_ (.cmp .eq (.var 3) (.str "not"))
    (.cons (.ret (.not (.call 10 (.cons (.var 0) (.cons (.var 1) (.cons (.var 4) .nil))))))
    .nil)
    .nil)
  (.cons (.if_ (.cmp .eq (.var 3) (.str "and"))
    (.cons (.ret (.and (.call 10 (.cons (.var 0) (.cons (.var 1) (.cons (.var 4) .nil)))) (.call 10 (.cons (.var 0) (.cons (.var 1) (.cons (.ix (.var 7) (.int 0)) .nil))))))
    .nil)
    .nil)
  (.cons (.if_ (.cmp .eq (.var 3) (.str "or"))
    (.cons (.ret (.or (.call 10 (.cons (.var 0) (.cons (.var 1) (.cons (.var 4) .nil)))) (.call 10 (.cons (.var 0) (.cons (.var 1) (.cons (.ix (.var 7) (.int 0)) .nil))))))
    .nil)
    .nil)
  (.cons (.par [5, 6] (.cons (.call 9 (.cons (.var 0) (.cons (.var 1) (.cons (.var 4) .nil)))) (.cons (.call 9 (.cons (.var 0) (.cons (.var 1) (.cons (.ix (.var 7) (.int 0)) .nil)))) .nil)))
  (.cons (.ret (.ite (.cmp .eq (.var 3) (.str "=")) (.cmp .eq (.var 5) (.var 6)) (.cmp .lt (.var 5) (.var 6))))
  .nil))))))
def D_holds_in : DefD := { nm := "holds_in", ps := ["items", "state", "condition"], pv := none, N := ["items", "state", "condition", "word", "first", "one", "other", "rest"], fr := false, rf := true, gen := false, st := topS 19, body := b_holds_in }
def b_is_good : Ss :=
  (.cons (.asg [2, 3, 4] (.var 0))
  (.cons (.if_ (.not (.call 7 (.cons (.var 1) (.cons (.len (.var 2)) .nil))))
    (.cons (.ret (.bl false))
    .nil)
    .nil)
  (.cons (.if_ (.not (.all (.comp (.chain .le .le (.var 8) (.var 6) (.var 9)) [1003, 7, 8, 9, 6] (.zips (.var 2) (.var 1)) .nil [6, 7, 8, 9])))
    (.cons (.ret (.bl false))
    .nil)
    .nil)
  (.cons (.ret (.all (.comp (.call 10 (.cons (.var 2) (.cons (.var 1) (.cons (.var 5) .nil)))) [5] (.var 3) .nil [5])))
  .nil))))
def D_is_good : DefD := { nm := "is_good", ps := ["store", "thing"], pv := none, N := ["store", "thing", "items", "rules", "hands", "rule", "own", "item", "low", "high"], fr := false, rf := true, gen := false, st := topS 21, body := b_is_good }
def b_good_states : Ss :=
  (.cons (.asg [1] (.lst (.cons (.tup .nil) .nil)))
  (.cons (.for_ [3, 4, 5] (.ix (.var 0) (.int 0))
    (.cons (.asg [1] (.comp2 (.tup (.star (.var 2) (.cons (.var 6) .nil))) [2] (.var 1) [6] (.rng2 (.var 4) (.bin .add (.var 5) (.int 1))) .nil [2, 6] [6]))
    .nil))
  (.cons (.ret (.comp (.var 2) [2] (.var 1) (.cons (.call 11 (.cons (.var 0) (.cons (.var 2) .nil))) .nil) []))
  .nil)))
def D_good_states : DefD := { nm := "good_states", ps := ["store"], pv := none, N := ["store", "found", "state", "item", "low", "high", "own"], fr := false, rf := true, gen := true, st := topS 22, body := b_good_states }
def b_led : Ss :=
  (.cons (.asg [3] (.comp (.call 3 (.cons (.var 0) (.cons (.var 4) .nil))) [4] (.var 2) .nil [4]))
  (.cons (.ret (.call 4 (.cons (.var 1) (.star (.var 3) .nil))))
  .nil))
def D_led : DefD := { nm := "led", ps := ["store", "state"], pv := some "keys", N := ["store", "state", "keys", "changes", "key"], fr := false, rf := true, gen := false, st := topS 23, body := b_led }
def b_clash_of : Ss :=
  (.cons (.expr (.call 2 (.cons (.var 0) (.cons (.var 1) (.cons (.var 2) .nil)))))
  (.cons (.ret (.meth "Clashing" "least_state" 35 (.make 33 (.cons (.var 0) .nil)) (.cons (.var 1) (.cons (.var 2) .nil))))
  .nil))
def D_clash_of : DefD := { nm := "clash_of", ps := ["store", "one", "other"], pv := none, N := ["store", "one", "other"], fr := false, rf := true, gen := false, kw := [(["other", "one", "store"], [2, 1, 0])], st := topS 26, body := b_clash_of }
def b_clashes : Ss :=
  (.cons (.ret (.meth "Clashing" "pairs" 36 (.make 33 (.cons (.var 0) .nil)) .nil))
  .nil)
def D_clashes : DefD := { nm := "clashes", ps := ["store"], pv := none, N := ["store"], fr := false, rf := true, gen := false, kw := [(["store"], [0])], st := topS 27, body := b_clashes }
def b__law_feed : Ss :=
  (.cons (.ret (.lst (.cons (.listOf (.sl (.var 0) .nil (.cons (.int 63) .nil))) (.cons (.int 0) (.cons (.int 0) (.cons (.int 0) .nil))))))
  .nil)
def D__law_feed : DefD := { nm := "_law_feed", ps := ["_law_script"], pv := none, N := ["_law_script"], fr := true, rf := true, gen := false, st := topS 29, body := b__law_feed }
def b__law_draw : Ss :=
  (.cons (.setI (.var 0) (.int 3) (.bin .add (.ix (.var 0) (.int 3)) (.int 1)))
  (.cons (.if_ (.cmp .gt (.ix (.var 0) (.int 2)) (.int 0))
    (.cons (.asg [4] (.bin .mod (.toInt (.ix (.var 0) (.int 2))) (.var 1)))
    (.cons (.setI (.var 0) (.int 2) (.bin .fdiv (.ix (.var 0) (.int 2)) (.var 1)))
    (.cons (.ret (.var 4))
    .nil)))
    .nil)
  (.cons (.asg [2] (.ite (.cmp .ne (.ix (.var 0) (.int 0)) (.lst .nil)) (.ix (.ix (.var 0) (.int 0)) (.bin .mod (.toInt (.ix (.var 0) (.int 1))) (.len (.ix (.var 0) (.int 0))))) (.int 53)))
  (.cons (.setI (.var 0) (.int 1) (.bin .add (.ix (.var 0) (.int 1)) (.int 1)))
  (.cons (.if_ (.and (.cmp .ge (.var 2) (.bin .pow (.int 10) (.int 18))) (.cmp .le (.ix (.var 0) (.int 1)) (.len (.ix (.var 0) (.int 0)))))
    (.cons (.setI (.var 0) (.int 2) (.bin .fdiv (.var 2) (.var 1)))
    (.cons (.ret (.bin .mod (.toInt (.var 2)) (.var 1)))
    .nil))
    .nil)
  (.cons (.asg [3] (.toInt (.bin .pow (.bin .add (.bin .add (.bin .mod (.toInt (.var 2)) (.int 1000007011)) (.bin .mul (.bin .mul (.int 167) (.ix (.var 0) (.int 3))) (.bin .add (.ix (.var 0) (.int 3)) (.int 9)))) (.int 41)) (.int 5))))
  (.cons (.asg [3] (.toInt (.bin .pow (.bin .add (.bin .mul (.bin .mod (.toInt (.var 3)) (.int 2147483249)) (.bin .add (.bin .mul (.int 2) (.ix (.var 0) (.int 3))) (.int 17))) (.bin .mul (.int 50159) (.ix (.var 0) (.int 3)))) (.int 3))))
  (.cons (.ret (.bin .mod (.toInt (.bin .fdiv (.bin .mod (.toInt (.var 3)) (.int 2147483171)) (.int 64))) (.var 1)))
  .nil))))))))
def D__law_draw : DefD := { nm := "_law_draw", ps := ["_law_feed_here", "_law_limit"], pv := none, N := ["_law_feed_here", "_law_limit", "_law_cell", "_law_mixed", "_law_digit_now"], fr := false, rf := true, gen := false, st := topS 30, body := b__law_draw }
def b__law_wide : Ss :=
  (.cons (.asg [0] (.tup (.cons (.tup (.cons (.str "ann") (.cons (.tup (.cons (.tup (.cons (.str "put") (.cons (.tup (.cons (.int 1) (.cons (.int 0) .nil))) .nil))) (.cons (.tup (.cons (.str "take") (.cons (.tup (.cons (.int 0) (.cons (.int 1) .nil))) .nil))) .nil))) .nil))) (.cons (.tup (.cons (.str "bob") (.cons (.tup (.cons (.tup (.cons (.str "put") (.cons (.tup (.cons (.int 1) (.cons (.int 0) .nil))) .nil))) .nil)) .nil))) .nil))))
  (.cons (.ret (.tup (.cons (.tup (.cons (.tup (.cons (.str "cards") (.cons (.int 0) (.cons (.int 5) .nil)))) (.cons (.tup (.cons (.str "coins") (.cons (.int 0) (.cons (.int 5) .nil)))) .nil))) (.cons (.tup .nil) (.cons (.var 0) .nil)))))
  .nil))
def D__law_wide : DefD := { nm := "_law_wide", ps := [], pv := none, N := ["_law_folk"], fr := false, rf := true, gen := false, st := topS 31, body := b__law_wide }
def b__law_big : Ss :=
  (.cons (.asg [0] (.tup (.cons (.tup (.cons (.str "put") (.cons (.tup (.cons (.int 1) .nil)) .nil))) (.cons (.tup (.cons (.str "take") (.cons (.tup (.cons (.neg (.int 1)) .nil)) .nil))) .nil))))
  (.cons (.ret (.tup (.cons (.tup (.cons (.tup (.cons (.str "coins") (.cons (.int 0) (.cons (.int 12) .nil)))) .nil)) (.cons (.tup .nil) (.cons (.tup (.cons (.tup (.cons (.str "ann") (.cons (.var 0) .nil))) (.cons (.tup (.cons (.str "bob") (.cons (.sl (.var 0) (.cons (.int 1) .nil) .nil) .nil))) .nil))) .nil)))))
  .nil))
def D__law_big : DefD := { nm := "_law_big", ps := [], pv := none, N := ["_law_acts"], fr := false, rf := true, gen := false, st := topS 32, body := b__law_big }
def b__law_choice : Ss :=
  (.cons (.ret (.ix (.var 1) (.call 17 (.cons (.var 0) (.cons (.len (.var 1)) .nil)))))
  .nil)
def D__law_choice : DefD := { nm := "_law_choice", ps := ["_law_feed_here", "_law_some"], pv := none, N := ["_law_feed_here", "_law_some"], fr := false, rf := true, gen := false, st := topS 33, body := b__law_choice }
def b__law_worth : Ss :=
  (.cons (.if_ (.not (.isa (.var 2) .tuple))
    (.cons (.ret (.var 2))
    .nil)
    .nil)
  (.cons (.asg [3] (.ix (.var 2) (.int 0)))
  (.cons (.if_ (.cmp .eq (.var 3) (.str "item"))
    (.cons (.ret (.ix (.var 1) (.indexOf (.comp (.ix (.var 6) (.int 0)) [6] (.ix (.var 0) (.int 0)) .nil [6]) (.ix (.var 2) (.int 1)))))
    .nil)
    .nil)
  (.cons (.asg [4] (.call 21 (.cons (.var 0) (.cons (.var 1) (.cons (.ix (.var 2) (.int 1)) .nil)))))
  (.cons (.if_ (.cmp .eq (.var 3) (.str "not"))
    (.cons (.ret (.not (.var 4)))
    .nil)
    .nil)
  (.cons (.asg [5] (.call 21 (.cons (.var 0) (.cons (.var 1) (.cons (.ix (.var 2) (.int 2)) .nil)))))
  (.cons (.if_ (.cmp .in_ (.var 3) (.tup (.cons (.str "and") (.cons (.str "or") .nil))))
    (.cons (.ret (.ite (.cmp .eq (.var 3) (.str "and")) (.and (.var 4) (.var 5)) (.or (.var 4) (.var 5))))
    .nil)
    .nil)
  (.cons (.if_ (.cmp .in_ (.var 3) (.tup (.cons (.str "=") (.cons (.str "<") .nil))))
    (.cons (.ret (.ite (.cmp .eq (.var 3) (.str "=")) (.cmp .eq (.var 4) (.var 5)) (.cmp .lt (.var 4) (.var 5))))
    .nil)
    .nil)
  (.cons (.ret (.dget (.dct (.cons (.str "+") (.cons (.bin .add (.var 4) (.var 5)) (.cons (.str "-") (.cons (.bin .sub (.var 4) (.var 5)) (.cons (.str "*") (.cons (.bin .mul (.var 4) (.var 5)) .nil))))))) (.var 3)))
  .nil)))))))))
def D__law_worth : DefD := { nm := "_law_worth", ps := ["_law_shop_here", "_law_spot", "_law_e"], pv := none, N := ["_law_shop_here", "_law_spot", "_law_e", "_law_word_now", "_law_first", "_law_second", "_law_row"], fr := false, rf := true, gen := false, st := topS 34, body := b__law_worth }
def b__law_fine : Ss :=
  (.cons (.for_ [2, 1003, 3, 4, 5] (.zip2 (.var 1) (.ix (.var 0) (.int 0)))
    (.cons (.if_ (.not (.chain .le .le (.var 4) (.var 2) (.var 5)))
    (.cons (.ret (.bl false))
    .nil)
    .nil)
    .nil))
  (.cons (.ret (.cmp .eq (.comp (.var 6) [6] (.ix (.var 0) (.int 1)) (.cons (.not (.call 21 (.cons (.var 0) (.cons (.var 1) (.cons (.var 6) .nil))))) .nil) [6]) (.lst .nil)))
  .nil))
def D__law_fine : DefD := { nm := "_law_fine", ps := ["_law_shop_here", "_law_spot"], pv := none, N := ["_law_shop_here", "_law_spot", "_law_n", "_law_label", "_law_low", "_law_high", "_law_claim_here"], fr := false, rf := true, gen := false, st := topS 35, body := b__law_fine }
def b__law_spots : Ss :=
  (.cons (.asg [1] (.lst (.cons (.tup .nil) .nil)))
  (.cons (.for_ [2, 3, 4] (.ix (.var 0) (.int 0))
    (.cons (.asgO 5 (.lst .nil))
    (.cons (.for_ [6] (.var 1)
    (.cons (.ext 5 (.comp (.bin .add (.var 6) (.tup (.cons (.var 7) .nil))) [7] (.rng2 (.var 3) (.bin .add (.var 4) (.int 1))) .nil [7]))
    .nil))
    (.cons (.asg [1] (.listOf (.bor 5)))
    .nil))))
  (.cons (.ret (.comp (.var 6) [6] (.var 1) (.cons (.call 22 (.cons (.var 0) (.cons (.var 6) .nil))) .nil) [6]))
  .nil)))
def D__law_spots : DefD := { nm := "_law_spots", ps := ["_law_shop_here"], pv := none, N := ["_law_shop_here", "_law_found", "_law_label", "_law_low", "_law_high", "_law_longer", "_law_spot", "_law_n"], fr := false, rf := true, gen := false, st := topS 36, body := b__law_spots }
def b__law_plus : Ss :=
  (.cons (.ret (.tupleOf (.comp (.bin .add (.var 2) (.var 3)) [2, 3] (.zip2 (.var 0) (.var 1)) .nil [2, 3])))
  .nil)
def D__law_plus : DefD := { nm := "_law_plus", ps := ["_law_one_now", "_law_two"], pv := none, N := ["_law_one_now", "_law_two", "_law_n", "_law_m"], fr := false, rf := true, gen := false, st := topS 37, body := b__law_plus }
def b__law_marks : Ss :=
  (.cons (.asgO 1 (.lst .nil))
  (.cons (.for_ [2, 3] (.ix (.var 0) (.int 2))
    (.cons (.ext 1 (.comp (.tup (.cons (.tup (.cons (.var 2) (.cons (.var 4) .nil))) (.cons (.var 5) .nil))) [4, 5] (.var 3) .nil [4, 5]))
    .nil))
  (.cons (.frz 1)
  (.cons (.ret (.var 1))
  .nil))))
def D__law_marks : DefD := { nm := "_law_marks", ps := ["_law_shop_here"], pv := none, N := ["_law_shop_here", "_law_found", "_law_who", "_law_acts", "_law_act", "_law_lot"], fr := false, rf := true, gen := false, st := topS 38, body := b__law_marks }
def b__law_claim : Ss :=
  (.cons (.asg [3] (.ite (.cmp .gt (.var 2) (.int 0)) (.call 17 (.cons (.var 0) (.cons (.int 6) .nil))) (.call 17 (.cons (.var 0) (.cons (.int 3) .nil)))))
  (.cons (.if_ (.cmp .lt (.var 3) (.int 4))
    (.cons (.asg [4] (.tup (.cons (.str "item") (.cons (.call 20 (.cons (.var 0) (.cons (.var 1) .nil))) .nil))))
    (.cons (.if_ (.cmp .eq (.call 17 (.cons (.var 0) (.cons (.int 3) .nil))) (.int 0))
    (.cons (.asg [4] (.tup (.cons (.call 20 (.cons (.var 0) (.cons (.lst (.cons (.str "+") (.cons (.str "-") (.cons (.str "*") .nil)))) .nil))) (.cons (.var 4) (.cons (.tup (.cons (.str "item") (.cons (.call 20 (.cons (.var 0) (.cons (.var 1) .nil))) .nil))) .nil)))))
    .nil)
    .nil)
    (.cons (.asg [5] (.call 20 (.cons (.var 0) (.cons (.lst (.cons (.int 0) (.cons (.int 1) (.cons (.int 2) (.cons (.int 3) (.cons (.tup (.cons (.str "item") (.cons (.call 20 (.cons (.var 0) (.cons (.var 1) .nil))) .nil))) (.cons (.neg (.int 1)) .nil))))))) .nil))))
    (.cons (.ret (.ite (.cmp .eq (.var 3) (.int 0)) (.tup (.cons (.str "<") (.cons (.var 4) (.cons (.var 5) .nil)))) (.ite (.cmp .lt (.var 3) (.int 3)) (.tup (.cons (.str "not") (.cons (.tup (.cons (.str "=") (.cons (.var 4) (.cons (.var 5) .nil)))) .nil))) (.tup (.cons (.str "<") (.cons (.var 5) (.cons (.var 4) .nil)))))))
    .nil))))
    .nil)
  (.cons (.ret (.tup (.cons (.ix (.lst (.cons (.str "and") (.cons (.str "or") .nil))) (.bin .sub (.var 3) (.int 4))) (.cons (.call 26 (.cons (.var 0) (.cons (.var 1) (.cons (.bin .sub (.var 2) (.int 1)) .nil)))) (.cons (.call 26 (.cons (.var 0) (.cons (.var 1) (.cons (.bin .sub (.var 2) (.int 1)) .nil)))) .nil)))))
  .nil)))
def D__law_claim : DefD := { nm := "_law_claim", ps := ["_law_feed_here", "_law_labels", "_law_deep"], pv := none, N := ["_law_feed_here", "_law_labels", "_law_deep", "_law_way", "_law_left", "_law_two"], fr := false, rf := true, gen := false, st := topS 39, body := b__law_claim }
def b__law_shop : Ss :=
  (.cons (.asg [1] (.call 20 (.cons (.var 0) (.cons (.lst (.cons (.tup (.cons (.str "coins") .nil)) (.cons (.tup (.cons (.str "item") .nil)) (.cons (.tup (.cons (.str "cards") (.cons (.str "coins") .nil))) (.cons (.tup (.cons (.str "coins") .nil)) (.cons (.tup (.cons (.str "not") (.cons (.str "zzzzzzzz") .nil))) .nil)))))) .nil))))
  (.cons (.asg [2] (.ite (.cmp .eq (.len (.var 1)) (.int 1)) (.bin .add (.int 4) (.call 17 (.cons (.var 0) (.cons (.int 5) .nil)))) (.int 2)))
  (.cons (.asgO 3 (.lst .nil))
  (.cons (.for_ [4] (.var 1)
    (.cons (.asg [9] (.call 20 (.cons (.var 0) (.cons (.lst (.cons (.int 0) (.cons (.int 0) (.cons (.int 1) (.cons (.neg (.int 2)) .nil))))) .nil))))
    (.cons (.app 3 (.tup (.cons (.var 4) (.cons (.var 9) (.cons (.bin .add (.var 9) (.var 2)) .nil)))))
    .nil)))
  (.cons (.asgO 5 (.lst .nil))
  (.cons (.for_ [6] (.sl (.tup (.cons (.str "ann") (.cons (.str "bob") (.cons (.str "cy") .nil)))) .nil (.cons (.bin .add (.int 2) (.toInt (.cmp .eq (.call 17 (.cons (.var 0) (.cons (.int 3) .nil))) (.int 0)))) .nil))
    (.cons (.asgO 10 (.lst .nil))
    (.cons (.for_ [11] (.tup (.cons (.str "give") (.cons (.str "put") (.cons (.str "take") .nil))))
    (.cons (.if_ (.cmp .eq (.call 17 (.cons (.var 0) (.cons (.int 2) .nil))) (.int 0))
    (.cons (.app 10 (.tup (.cons (.var 11) (.cons (.tupleOf (.comp (.call 20 (.cons (.var 0) (.cons (.lst (.cons (.int 1) (.cons (.neg (.int 1)) (.cons (.int 1) (.cons (.neg (.int 1)) (.cons (.int 2) (.cons (.neg (.int 2)) (.cons (.int 0) .nil)))))))) .nil))) [4] (.var 1) .nil [4])) .nil))))
    .nil)
    .nil)
    .nil))
    (.cons (.app 5 (.tup (.cons (.var 6) (.cons (.tupleOf (.bor 10)) .nil))))
    .nil))))
  (.cons (.asg [7] (.tup (.cons (.tupleOf (.bor 3)) (.cons (.tup .nil) (.cons (.tupleOf (.bor 5)) .nil)))))
  (.cons (.asg [8] (.tupleOf (.comp (.call 26 (.cons (.var 0) (.cons (.var 1) (.cons (.int 1) .nil)))) [12] (.rng1 (.call 17 (.cons (.var 0) (.cons (.int 3) .nil)))) .nil [12])))
  (.cons (.ret (.ite (.cmp .ne (.call 23 (.cons (.tup (.cons (.ix (.var 7) (.int 0)) (.cons (.var 8) (.cons (.ix (.var 7) (.int 2)) .nil)))) .nil)) (.lst .nil)) (.tup (.cons (.ix (.var 7) (.int 0)) (.cons (.var 8) (.cons (.ix (.var 7) (.int 2)) .nil)))) (.var 7)))
  .nil)))))))))
def D__law_shop : DefD := { nm := "_law_shop", ps := ["_law_feed_here"], pv := none, N := ["_law_feed_here", "_law_labels", "_law_wide_here", "_law_found", "_law_label", "_law_folk", "_law_who", "_law_shop_here", "_law_claims", "_law_low", "_law_acts", "_law_act", "_law_k"], fr := false, rf := true, gen := false, st := topS 40, body := b__law_shop }
def b__law_till : Ss :=
  (.cons (.ret (.tup (.cons (.tup (.cons (.tup (.cons (.str "coins") (.cons (.int 0) (.cons (.int 4) .nil)))) .nil)) (.cons (.tup .nil) (.cons (.tup (.cons (.tup (.cons (.str "ann") (.cons (.tup (.cons (.tup (.cons (.str "put") (.cons (.tup (.cons (.int 1) .nil)) .nil))) (.cons (.tup (.cons (.str "take") (.cons (.tup (.cons (.neg (.int 1)) .nil)) .nil))) .nil))) .nil))) (.cons (.tup (.cons (.str "bob") (.cons (.tup (.cons (.tup (.cons (.str "take") (.cons (.tup (.cons (.neg (.int 1)) .nil)) .nil))) .nil)) .nil))) .nil))) .nil)))))
  .nil)
def D__law_till : DefD := { nm := "_law_till", ps := [], pv := none, N := [], fr := false, rf := true, gen := false, st := topS 41, body := b__law_till }
def b__law_clash : Ss :=
  (.cons (.if_ (.cmp .eq (.ix (.ix (.var 1) (.int 0)) (.int 0)) (.ix (.ix (.var 2) (.int 0)) (.int 0)))
    (.cons (.ret .non)
    .nil)
    .nil)
  (.cons (.for_ [3] (.call 23 (.cons (.var 0) .nil))
    (.cons (.par [4, 5] (.cons (.call 24 (.cons (.var 3) (.cons (.ix (.var 1) (.int 1)) .nil))) (.cons (.call 24 (.cons (.var 3) (.cons (.ix (.var 2) (.int 1)) .nil))) .nil)))
    (.cons (.if_ (.and (.call 22 (.cons (.var 0) (.cons (.var 4) .nil))) (.and (.call 22 (.cons (.var 0) (.cons (.var 5) .nil))) (.not (.call 22 (.cons (.var 0) (.cons (.call 24 (.cons (.var 4) (.cons (.ix (.var 2) (.int 1)) .nil))) .nil))))))
    (.cons (.ret (.var 3))
    .nil)
    .nil)
    .nil)))
  (.cons (.ret .non)
  .nil)))
def D__law_clash : DefD := { nm := "_law_clash", ps := ["_law_shop_here", "_law_one_now", "_law_two"], pv := none, N := ["_law_shop_here", "_law_one_now", "_law_two", "_law_spot", "_law_left", "_law_right"], fr := false, rf := true, gen := false, st := topS 42, body := b__law_clash }
def b__law_all_clashes : Ss :=
  (.cons (.parVO 1 2 (.call 25 (.cons (.var 0) .nil)) (.lst .nil))
  (.cons (.for_ [3, 4] (.enum (.var 1))
    (.cons (.ext 2 (.comp (.tup (.cons (.ix (.var 4) (.int 0)) (.cons (.ix (.var 5) (.int 0)) .nil))) [5] (.sl (.var 1) (.cons (.bin .add (.var 3) (.int 1)) .nil) .nil) (.cons (.cmp .notN (.call 29 (.cons (.var 0) (.cons (.var 4) (.cons (.var 5) .nil)))) .non) .nil) [5]))
    .nil))
  (.cons (.frz 2)
  (.cons (.ret (.var 2))
  .nil))))
def D__law_all_clashes : DefD := { nm := "_law_all_clashes", ps := ["_law_shop_here"], pv := none, N := ["_law_shop_here", "_law_marks_here", "_law_found", "_law_k", "_law_one_now", "_law_two"], fr := false, rf := true, gen := false, st := topS 43, body := b__law_all_clashes }
def b__law_agrees : Ss :=
  (.cons (.par [2, 3] (.cons (.repr (.var 0)) (.cons (.call 25 (.cons (.var 0) .nil)) .nil)))
  (.cons (.if_ (.cmp .ne (.repr (.lst (.cons (.call 15 (.cons (.var 0) .nil)) (.cons (.callK 15 ["store"] [0] (.cons (.var 0) .nil)) .nil)))) (.repr (.bin .mul (.lst (.cons (.tupleOf (.call 30 (.cons (.var 0) .nil))) .nil)) (.int 2))))
    (.cons (.ret (.bl false))
    .nil)
    .nil)
  (.cons (.for_ [1] (.var 3)
    (.cons (.for_ [4] (.var 3)
    (.cons (.asg [5] (.call 29 (.cons (.var 0) (.cons (.var 1) (.cons (.var 4) .nil)))))
    (.cons (.asg [6] (.lst (.cons (.call 14 (.cons (.var 0) (.cons (.ix (.var 1) (.int 0)) (.cons (.ix (.var 4) (.int 0)) .nil)))) (.cons (.callK 14 ["other", "one", "store"] [2, 1, 0] (.cons (.ix (.var 4) (.int 0)) (.cons (.ix (.var 1) (.int 0)) (.cons (.var 0) .nil)))) .nil))))
    (.cons (.if_ (.cmp .ne (.repr (.var 6)) (.repr (.lst (.cons (.var 5) (.cons (.var 5) .nil)))))
    (.cons (.ret (.bl false))
    .nil)
    .nil)
    .nil))))
    .nil))
  (.cons (.ret (.cmp .eq (.repr (.var 0)) (.var 2)))
  .nil))))
def D__law_agrees : DefD := { nm := "_law_agrees", ps := ["_law_shop_here"], pv := none, N := ["_law_shop_here", "_law_one_now", "_law_before", "_law_marks_here", "_law_two", "_law_due", "_law_told"], fr := false, rf := false, gen := false, st := topS 44, body := b__law_agrees }
def b_law : Ss :=
  (.cons (.asgC 1 (.call 16 (.cons (.var 0) .nil)))
  (.cons (.if_ (.cmp .ne (.comp (.var 3) [3] (.tup (.cons (.call 28 .nil) (.cons (.call 19 .nil) (.cons (.call 18 .nil) .nil)))) (.cons (.not (.call 31 (.cons (.var 3) .nil))) .nil) [3]) (.lst .nil))
    (.cons (.ret (.bl false))
    .nil)
    .nil)
  (.cons (.if_ (.cmp .ne (.call 14 (.cons (.call 28 .nil) (.cons (.tup (.cons (.str "bob") (.cons (.str "take") .nil))) (.cons (.tup (.cons (.str "ann") (.cons (.str "take") .nil))) .nil)))) (.tup (.cons (.int 1) .nil)))
    (.cons (.ret (.bl false))
    .nil)
    .nil)
  (.cons (.if_ (.cmp .ne (.call 14 (.cons (.call 18 .nil) (.cons (.tup (.cons (.str "ann") (.cons (.str "put") .nil))) (.cons (.tup (.cons (.str "bob") (.cons (.str "put") .nil))) .nil)))) (.tup (.cons (.int 4) (.cons (.int 0) .nil))))
    (.cons (.ret (.bl false))
    .nil)
    .nil)
  (.cons (.for_ [2] (.rng1 (.int 6))
    (.cons (.if_ (.not (.call 31 (.cons (.call 27 (.cons (.var 1) .nil)) .nil)))
    (.cons (.ret (.bl false))
    .nil)
    .nil)
    .nil))
  (.cons (.ret (.bl true))
  .nil))))))
def D_law : DefD := { nm := "law", ps := ["_law_script"], pv := none, N := ["_law_script", "_law_feed_here", "_law_attempt", "_law_shop_here"], fr := false, rf := false, gen := false, st := topS 45, body := b_law }
def b_Clashing_init : List II :=
  [.at_ "own_store" (.var 1),
  .at_ "own_keys" (.call 1 (.cons (.var 1) .nil)),
  .at_ "places" (.glist 12 (.cons (.var 1) .nil))]
def D_Clashing_init : DefD := { nm := "__init__", ps := ["self", "store"], pv := none, N := ["self", "store"], fr := false, rf := true, gen := false, kd := 2, cls := "Clashing", qn := "Clashing.__init__", st := methS 25 0, its := b_Clashing_init }
def b_Clashing_clash_in : Ss :=
  (.cons (.if_ (.or (.cmp .eq (.ix (.var 2) (.int 0)) (.ix (.var 3) (.int 0))) (.not (.call 11 (.cons (.attr "Clashing" (.var 0) "own_store") (.cons (.call 13 (.cons (.attr "Clashing" (.var 0) "own_store") (.cons (.var 1) (.cons (.var 2) .nil)))) .nil)))))
    (.cons (.ret (.bl false))
    .nil)
    .nil)
  (.cons (.if_ (.not (.call 11 (.cons (.attr "Clashing" (.var 0) "own_store") (.cons (.call 13 (.cons (.attr "Clashing" (.var 0) "own_store") (.cons (.var 1) (.cons (.var 3) .nil)))) .nil))))
    (.cons (.ret (.bl false))
    .nil)
    .nil)
  (.cons (.ret (.not (.call 11 (.cons (.attr "Clashing" (.var 0) "own_store") (.cons (.call 13 (.cons (.attr "Clashing" (.var 0) "own_store") (.cons (.var 1) (.cons (.var 2) (.cons (.var 3) .nil))))) .nil)))))
  .nil)))
def D_Clashing_clash_in : DefD := { nm := "clash_in", ps := ["self", "state", "one", "other"], pv := none, N := ["self", "state", "one", "other"], fr := false, rf := true, gen := false, kd := 1, cls := "Clashing", qn := "Clashing.clash_in", st := methS 25 1, body := b_Clashing_clash_in }
def b_Clashing_least_state : Ss :=
  (.cons (.for_ [3] (.attr "Clashing" (.var 0) "places")
    (.cons (.if_ (.meth "Clashing" "clash_in" 34 (.var 0) (.cons (.var 3) (.cons (.var 1) (.cons (.var 2) .nil))))
    (.cons (.ret (.var 3))
    .nil)
    .nil)
    .nil))
  (.cons (.ret .non)
  .nil))
def D_Clashing_least_state : DefD := { nm := "least_state", ps := ["self", "one", "other"], pv := none, N := ["self", "one", "other", "state"], fr := false, rf := true, gen := false, kd := 1, cls := "Clashing", qn := "Clashing.least_state", st := methS 25 2, body := b_Clashing_least_state }
def b_Clashing_pairs : Ss :=
  (.cons (.asgO 1 (.lst .nil))
  (.cons (.for_ [2] (.attr "Clashing" (.var 0) "own_keys")
    (.cons (.ext 1 (.comp (.tup (.cons (.var 2) (.cons (.var 4) .nil))) [4] (.attr "Clashing" (.var 0) "own_keys") (.cons (.cmp .lt (.var 2) (.var 4)) .nil) [4]))
    .nil))
  (.cons (.ret (.tupleOf (.comp (.var 3) [3] (.bor 1) (.cons (.cmp .notN (.meth "Clashing" "least_state" 35 (.var 0) (.cons (.ix (.var 3) (.int 0)) (.cons (.ix (.var 3) (.int 1)) .nil))) .non) .nil) [3])))
  .nil)))
def D_Clashing_pairs : DefD := { nm := "pairs", ps := ["self"], pv := none, N := ["self", "found", "one", "pair", "other"], fr := false, rf := true, gen := false, kd := 1, cls := "Clashing", qn := "Clashing.pairs", st := methS 25 3, body := b_Clashing_pairs }
def ds : List DefD := [D_sums_by_key, D_all_keys, D_require_keys, D_sum_of, D_added, D_is_integer, D_are_integers, D_is_sum, D_names_of, D_value_in, D_holds_in, D_is_good, D_good_states, D_led, D_clash_of, D_clashes, D__law_feed, D__law_draw, D__law_wide, D__law_big, D__law_choice, D__law_worth, D__law_fine, D__law_spots, D__law_plus, D__law_marks, D__law_claim, D__law_shop, D__law_till, D__law_clash, D__law_all_clashes, D__law_agrees, D_law, D_Clashing_init, D_Clashing_clash_in, D_Clashing_least_state, D_Clashing_pairs]
def gs : List GD := []
theorem bo_sums_by_key : BindOk D_sums_by_key := ⟨fun _ _ _ _ _ _ us hl => match us, hl with
  | [_], _ => rfl, trivial⟩
theorem bo_all_keys : BindOk D_all_keys := ⟨fun _ _ _ _ _ _ us hl => match us, hl with
  | [_], _ => rfl, trivial⟩
theorem bo_require_keys : BindOk D_require_keys := ⟨fun _ _ _ _ _ _ us rest hl => match us, rest, hl with
  | [_], [], _ => rfl
  | [_], _ :: _, _ => rfl, trivial⟩
theorem bo_sum_of : BindOk D_sum_of := ⟨fun _ _ _ _ _ _ us hl => match us, hl with
  | [_, _], _ => rfl, trivial⟩
theorem bo_added : BindOk D_added := ⟨fun _ _ _ _ _ _ us rest hl => match us, rest, hl with
  | [_], [], _ => rfl
  | [_], _ :: _, _ => rfl, trivial⟩
theorem bo_is_integer : BindOk D_is_integer := ⟨fun _ _ _ _ _ _ us hl => match us, hl with
  | [_], _ => rfl, trivial⟩
theorem bo_are_integers : BindOk D_are_integers := ⟨fun _ _ _ _ _ _ us hl => match us, hl with
  | [_], _ => rfl, trivial⟩
theorem bo_is_sum : BindOk D_is_sum := ⟨fun _ _ _ _ _ _ us hl => match us, hl with
  | [_, _], _ => rfl, trivial⟩
theorem bo_names_of : BindOk D_names_of := ⟨fun _ _ _ _ _ _ us hl => match us, hl with
  | [_], _ => rfl, trivial⟩
theorem bo_value_in : BindOk D_value_in := ⟨fun _ _ _ _ _ _ us hl => match us, hl with
  | [_, _, _], _ => rfl, trivial⟩
theorem bo_holds_in : BindOk D_holds_in := ⟨fun _ _ _ _ _ _ us hl => match us, hl with
  | [_, _, _], _ => rfl, trivial⟩
theorem bo_is_good : BindOk D_is_good := ⟨fun _ _ _ _ _ _ us hl => match us, hl with
  | [_, _], _ => rfl, trivial⟩
theorem bo_good_states : BindOk D_good_states := ⟨fun _ _ _ _ _ _ us hl => match us, hl with
  | [_], _ => rfl, trivial⟩
theorem bo_led : BindOk D_led := ⟨fun _ _ _ _ _ _ us rest hl => match us, rest, hl with
  | [_, _], [], _ => rfl
  | [_, _], _ :: _, _ => rfl, trivial⟩
theorem bo_clash_of : BindOk D_clash_of := ⟨fun _ _ _ _ _ _ us hl => match us, hl with
  | [_, _, _], _ => rfl, ⟨fun _ _ _ _ _ _ us ws hl hp => match us, hl, hp with
  | [u0, u1, u2], _, hp => by
    have e : ws = [u2, u1, u0] := (Option.some.inj hp).symm
    subst e
    rfl, trivial⟩⟩
theorem bo_clashes : BindOk D_clashes := ⟨fun _ _ _ _ _ _ us hl => match us, hl with
  | [_], _ => rfl, ⟨fun _ _ _ _ _ _ us ws hl hp => match us, hl, hp with
  | [u0], _, hp => by
    have e : ws = [u0] := (Option.some.inj hp).symm
    subst e
    rfl, trivial⟩⟩
theorem bo__law_feed : BindOk D__law_feed := ⟨fun _ _ _ _ _ _ us hl => match us, hl with
  | [_], _ => rfl, trivial⟩
theorem bo__law_draw : BindOk D__law_draw := ⟨fun _ _ _ _ _ _ us hl => match us, hl with
  | [_, _], _ => rfl, trivial⟩
theorem bo__law_wide : BindOk D__law_wide := ⟨fun _ _ _ _ _ _ us hl => match us, hl with
  | [], _ => rfl, trivial⟩
theorem bo__law_big : BindOk D__law_big := ⟨fun _ _ _ _ _ _ us hl => match us, hl with
  | [], _ => rfl, trivial⟩
theorem bo__law_choice : BindOk D__law_choice := ⟨fun _ _ _ _ _ _ us hl => match us, hl with
  | [_, _], _ => rfl, trivial⟩
theorem bo__law_worth : BindOk D__law_worth := ⟨fun _ _ _ _ _ _ us hl => match us, hl with
  | [_, _, _], _ => rfl, trivial⟩
theorem bo__law_fine : BindOk D__law_fine := ⟨fun _ _ _ _ _ _ us hl => match us, hl with
  | [_, _], _ => rfl, trivial⟩
theorem bo__law_spots : BindOk D__law_spots := ⟨fun _ _ _ _ _ _ us hl => match us, hl with
  | [_], _ => rfl, trivial⟩
theorem bo__law_plus : BindOk D__law_plus := ⟨fun _ _ _ _ _ _ us hl => match us, hl with
  | [_, _], _ => rfl, trivial⟩
theorem bo__law_marks : BindOk D__law_marks := ⟨fun _ _ _ _ _ _ us hl => match us, hl with
  | [_], _ => rfl, trivial⟩
theorem bo__law_claim : BindOk D__law_claim := ⟨fun _ _ _ _ _ _ us hl => match us, hl with
  | [_, _, _], _ => rfl, trivial⟩
theorem bo__law_shop : BindOk D__law_shop := ⟨fun _ _ _ _ _ _ us hl => match us, hl with
  | [_], _ => rfl, trivial⟩
theorem bo__law_till : BindOk D__law_till := ⟨fun _ _ _ _ _ _ us hl => match us, hl with
  | [], _ => rfl, trivial⟩
theorem bo__law_clash : BindOk D__law_clash := ⟨fun _ _ _ _ _ _ us hl => match us, hl with
  | [_, _, _], _ => rfl, trivial⟩
theorem bo__law_all_clashes : BindOk D__law_all_clashes := ⟨fun _ _ _ _ _ _ us hl => match us, hl with
  | [_], _ => rfl, trivial⟩
theorem bo__law_agrees : BindOk D__law_agrees := ⟨fun _ _ _ _ _ _ us hl => match us, hl with
  | [_], _ => rfl, trivial⟩
theorem bo_law : BindOk D_law := ⟨fun _ _ _ _ _ _ us hl => match us, hl with
  | [_], _ => rfl, trivial⟩
theorem bo_Clashing_init : BindOk D_Clashing_init := ⟨fun _ _ _ _ _ _ us hl => match us, hl with
  | [_, _], _ => rfl, trivial⟩
theorem bo_Clashing_clash_in : BindOk D_Clashing_clash_in := ⟨fun _ _ _ _ _ _ us hl => match us, hl with
  | [_, _, _, _], _ => rfl, trivial⟩
theorem bo_Clashing_least_state : BindOk D_Clashing_least_state := ⟨fun _ _ _ _ _ _ us hl => match us, hl with
  | [_, _, _], _ => rfl, trivial⟩
theorem bo_Clashing_pairs : BindOk D_Clashing_pairs := ⟨fun _ _ _ _ _ _ us hl => match us, hl with
  | [_], _ => rfl, trivial⟩
theorem ok_sums_by_key : okD ds gs D_sums_by_key = true := by decide +kernel
theorem ok_all_keys : okD ds gs D_all_keys = true := by decide +kernel
theorem ok_require_keys : okD ds gs D_require_keys = true := by decide +kernel
theorem ok_sum_of : okD ds gs D_sum_of = true := by decide +kernel
theorem ok_added : okD ds gs D_added = true := by decide +kernel
theorem ok_is_integer : okD ds gs D_is_integer = true := by decide +kernel
theorem ok_are_integers : okD ds gs D_are_integers = true := by decide +kernel
theorem ok_is_sum : okD ds gs D_is_sum = true := by decide +kernel
theorem ok_names_of : okD ds gs D_names_of = true := by decide +kernel
theorem ok_value_in : okD ds gs D_value_in = true := by decide +kernel
theorem ok_holds_in : okD ds gs D_holds_in = true := by decide +kernel
theorem ok_is_good : okD ds gs D_is_good = true := by decide +kernel
theorem ok_good_states : okD ds gs D_good_states = true := by decide +kernel
theorem ok_led : okD ds gs D_led = true := by decide +kernel
theorem ok_clash_of : okD ds gs D_clash_of = true := by decide +kernel
theorem ok_clashes : okD ds gs D_clashes = true := by decide +kernel
theorem ok__law_feed : okD ds gs D__law_feed = true := by decide +kernel
theorem ok__law_draw : okD ds gs D__law_draw = true := by decide +kernel
theorem ok__law_wide : okD ds gs D__law_wide = true := by decide +kernel
theorem ok__law_big : okD ds gs D__law_big = true := by decide +kernel
theorem ok__law_choice : okD ds gs D__law_choice = true := by decide +kernel
theorem ok__law_worth : okD ds gs D__law_worth = true := by decide +kernel
theorem ok__law_fine : okD ds gs D__law_fine = true := by decide +kernel
theorem ok__law_spots : okD ds gs D__law_spots = true := by decide +kernel
theorem ok__law_plus : okD ds gs D__law_plus = true := by decide +kernel
theorem ok__law_marks : okD ds gs D__law_marks = true := by decide +kernel
theorem ok__law_claim : okD ds gs D__law_claim = true := by decide +kernel
theorem ok__law_shop : okD ds gs D__law_shop = true := by decide +kernel
theorem ok__law_till : okD ds gs D__law_till = true := by decide +kernel
theorem ok__law_clash : okD ds gs D__law_clash = true := by decide +kernel
theorem ok__law_all_clashes : okD ds gs D__law_all_clashes = true := by decide +kernel
theorem ok__law_agrees : okD ds gs D__law_agrees = true := by decide +kernel
theorem ok_law : okD ds gs D_law = true := by decide +kernel
theorem ok_Clashing_init : okD ds gs D_Clashing_init = true := by decide +kernel
theorem ok_Clashing_clash_in : okD ds gs D_Clashing_clash_in = true := by decide +kernel
theorem ok_Clashing_least_state : okD ds gs D_Clashing_least_state = true := by decide +kernel
theorem ok_Clashing_pairs : okD ds gs D_Clashing_pairs = true := by decide +kernel
theorem told_all {K : PySem.W.Frag} {h : Heap} {mg : Str → Option Value} (X : K.In h) (G : h.Ns mainGlobals mg) {f0 : Addr} {od0 an0 : Option Addr} {sl0 : Array (Option Value)} {oc0 kV0 dc0 pm0 cd0 ct0 : Value} {f1 : Addr} {od1 an1 : Option Addr} {sl1 : Array (Option Value)} {oc1 kV1 dc1 pm1 cd1 ct1 : Value} {f2 : Addr} {od2 an2 : Option Addr} {sl2 : Array (Option Value)} {oc2 kV2 dc2 pm2 cd2 ct2 : Value} {f3 : Addr} {od3 an3 : Option Addr} {sl3 : Array (Option Value)} {oc3 kV3 dc3 pm3 cd3 ct3 : Value} {f4 : Addr} {od4 an4 : Option Addr} {sl4 : Array (Option Value)} {oc4 kV4 dc4 pm4 cd4 ct4 : Value} {f5 : Addr} {od5 an5 : Option Addr} {sl5 : Array (Option Value)} {oc5 kV5 dc5 pm5 cd5 ct5 : Value} {f6 : Addr} {od6 an6 : Option Addr} {sl6 : Array (Option Value)} {oc6 kV6 dc6 pm6 cd6 ct6 : Value} {f7 : Addr} {od7 an7 : Option Addr} {sl7 : Array (Option Value)} {oc7 kV7 dc7 pm7 cd7 ct7 : Value} {f8 : Addr} {od8 an8 : Option Addr} {sl8 : Array (Option Value)} {oc8 kV8 dc8 pm8 cd8 ct8 : Value} {f9 : Addr} {od9 an9 : Option Addr} {sl9 : Array (Option Value)} {oc9 kV9 dc9 pm9 cd9 ct9 : Value} {f10 : Addr} {od10 an10 : Option Addr} {sl10 : Array (Option Value)} {oc10 kV10 dc10 pm10 cd10 ct10 : Value} {f11 : Addr} {od11 an11 : Option Addr} {sl11 : Array (Option Value)} {oc11 kV11 dc11 pm11 cd11 ct11 : Value} {f12 : Addr} {od12 an12 : Option Addr} {sl12 : Array (Option Value)} {oc12 kV12 dc12 pm12 cd12 ct12 : Value} {f13 : Addr} {od13 an13 : Option Addr} {sl13 : Array (Option Value)} {oc13 kV13 dc13 pm13 cd13 ct13 : Value} {f14 : Addr} {od14 an14 : Option Addr} {sl14 : Array (Option Value)} {oc14 kV14 dc14 pm14 cd14 ct14 : Value} {f15 : Addr} {od15 an15 : Option Addr} {sl15 : Array (Option Value)} {oc15 kV15 dc15 pm15 cd15 ct15 : Value} {f16 : Addr} {od16 an16 : Option Addr} {sl16 : Array (Option Value)} {oc16 kV16 dc16 pm16 cd16 ct16 : Value} {f17 : Addr} {od17 an17 : Option Addr} {sl17 : Array (Option Value)} {oc17 kV17 dc17 pm17 cd17 ct17 : Value} {f18 : Addr} {od18 an18 : Option Addr} {sl18 : Array (Option Value)} {oc18 kV18 dc18 pm18 cd18 ct18 : Value} {f19 : Addr} {od19 an19 : Option Addr} {sl19 : Array (Option Value)} {oc19 kV19 dc19 pm19 cd19 ct19 : Value} {f20 : Addr} {od20 an20 : Option Addr} {sl20 : Array (Option Value)} {oc20 kV20 dc20 pm20 cd20 ct20 : Value} {f21 : Addr} {od21 an21 : Option Addr} {sl21 : Array (Option Value)} {oc21 kV21 dc21 pm21 cd21 ct21 : Value} {f22 : Addr} {od22 an22 : Option Addr} {sl22 : Array (Option Value)} {oc22 kV22 dc22 pm22 cd22 ct22 : Value} {f23 : Addr} {od23 an23 : Option Addr} {sl23 : Array (Option Value)} {oc23 kV23 dc23 pm23 cd23 ct23 : Value} {f24 : Addr} {od24 an24 : Option Addr} {sl24 : Array (Option Value)} {oc24 kV24 dc24 pm24 cd24 ct24 : Value} {f25 : Addr} {od25 an25 : Option Addr} {sl25 : Array (Option Value)} {oc25 kV25 dc25 pm25 cd25 ct25 : Value} {f26 : Addr} {od26 an26 : Option Addr} {sl26 : Array (Option Value)} {oc26 kV26 dc26 pm26 cd26 ct26 : Value} {f27 : Addr} {od27 an27 : Option Addr} {sl27 : Array (Option Value)} {oc27 kV27 dc27 pm27 cd27 ct27 : Value} {f28 : Addr} {od28 an28 : Option Addr} {sl28 : Array (Option Value)} {oc28 kV28 dc28 pm28 cd28 ct28 : Value} {f29 : Addr} {od29 an29 : Option Addr} {sl29 : Array (Option Value)} {oc29 kV29 dc29 pm29 cd29 ct29 : Value} {f30 : Addr} {od30 an30 : Option Addr} {sl30 : Array (Option Value)} {oc30 kV30 dc30 pm30 cd30 ct30 : Value} {f31 : Addr} {od31 an31 : Option Addr} {sl31 : Array (Option Value)} {oc31 kV31 dc31 pm31 cd31 ct31 : Value} {f32 : Addr} {od32 an32 : Option Addr} {sl32 : Array (Option Value)} {oc32 kV32 dc32 pm32 cd32 ct32 : Value} {f33 : Addr} {od33 an33 : Option Addr} {sl33 : Array (Option Value)} {oc33 kV33 dc33 pm33 cd33 ct33 : Value} {f34 : Addr} {od34 an34 : Option Addr} {sl34 : Array (Option Value)} {oc34 kV34 dc34 pm34 cd34 ct34 : Value} {f35 : Addr} {od35 an35 : Option Addr} {sl35 : Array (Option Value)} {oc35 kV35 dc35 pm35 cd35 ct35 : Value} {f36 : Addr} {od36 an36 : Option Addr} {sl36 : Array (Option Value)} {oc36 kV36 dc36 pm36 cd36 ct36 : Value} {C_Clashing : Addr}
    (aC_Clashing : PySem.W.nsIn K mainGlobals "Clashing" = some (some (.ref C_Clashing))) (pg_Clashing : PySem.W.plainGet K C_Clashing Str.empty = true) (hd_Clashing : PySem.W.hasDictIn K C_Clashing = true) (po_Clashing : PySem.W.plainOver K C_Clashing = true) (sa_Clashing : PySem.W.findIn K (.ref C_Clashing) "__setattr__" = some (some (.builtin "object.__setattr__"))) (mk_Clashing : PySem.W.makesIn K C_Clashing = true) (kc_Clashing : PySem.W.keepIn K (.ref C_Clashing) = true)
    (n_Clashing_own_store : PySem.W.findIn K (.ref C_Clashing) "own_store" = some none)
    (n_Clashing_own_keys : PySem.W.findIn K (.ref C_Clashing) "own_keys" = some none)
    (n_Clashing_places : PySem.W.findIn K (.ref C_Clashing) "places" = some none)
    (a0 : PySem.W.nsIn K mainGlobals "sums_by_key" = some (some (.ref f0))) (l0 : K.lookup f0 = some ⟨oc0, od0, .func (PySem.W.fnOf "sums_by_key" "sums_by_key" (defArgs D_sums_by_key.st) (defBody D_sums_by_key.st) (defScope D_sums_by_key.st) .none kV0 dc0 pm0 an0 cd0 ct0), sl0⟩) (c0 : PySem.W.codeIn K cd0 "sums_by_key" = true) (k0 : PySem.W.keepIn K (.ref f0) = true)
    (a1 : PySem.W.nsIn K mainGlobals "all_keys" = some (some (.ref f1))) (l1 : K.lookup f1 = some ⟨oc1, od1, .func (PySem.W.fnOf "all_keys" "all_keys" (defArgs D_all_keys.st) (defBody D_all_keys.st) (defScope D_all_keys.st) .none kV1 dc1 pm1 an1 cd1 ct1), sl1⟩) (c1 : PySem.W.codeIn K cd1 "all_keys" = true) (k1 : PySem.W.keepIn K (.ref f1) = true)
    (a2 : PySem.W.nsIn K mainGlobals "require_keys" = some (some (.ref f2))) (l2 : K.lookup f2 = some ⟨oc2, od2, .func (PySem.W.fnOf "require_keys" "require_keys" (defArgs D_require_keys.st) (defBody D_require_keys.st) (defScope D_require_keys.st) .none kV2 dc2 pm2 an2 cd2 ct2), sl2⟩) (c2 : PySem.W.codeIn K cd2 "require_keys" = true) (k2 : PySem.W.keepIn K (.ref f2) = true)
    (a3 : PySem.W.nsIn K mainGlobals "sum_of" = some (some (.ref f3))) (l3 : K.lookup f3 = some ⟨oc3, od3, .func (PySem.W.fnOf "sum_of" "sum_of" (defArgs D_sum_of.st) (defBody D_sum_of.st) (defScope D_sum_of.st) .none kV3 dc3 pm3 an3 cd3 ct3), sl3⟩) (c3 : PySem.W.codeIn K cd3 "sum_of" = true) (k3 : PySem.W.keepIn K (.ref f3) = true)
    (a4 : PySem.W.nsIn K mainGlobals "added" = some (some (.ref f4))) (l4 : K.lookup f4 = some ⟨oc4, od4, .func (PySem.W.fnOf "added" "added" (defArgs D_added.st) (defBody D_added.st) (defScope D_added.st) .none kV4 dc4 pm4 an4 cd4 ct4), sl4⟩) (c4 : PySem.W.codeIn K cd4 "added" = true) (k4 : PySem.W.keepIn K (.ref f4) = true)
    (a5 : PySem.W.nsIn K mainGlobals "is_integer" = some (some (.ref f5))) (l5 : K.lookup f5 = some ⟨oc5, od5, .func (PySem.W.fnOf "is_integer" "is_integer" (defArgs D_is_integer.st) (defBody D_is_integer.st) (defScope D_is_integer.st) .none kV5 dc5 pm5 an5 cd5 ct5), sl5⟩) (c5 : PySem.W.codeIn K cd5 "is_integer" = true) (k5 : PySem.W.keepIn K (.ref f5) = true)
    (a6 : PySem.W.nsIn K mainGlobals "are_integers" = some (some (.ref f6))) (l6 : K.lookup f6 = some ⟨oc6, od6, .func (PySem.W.fnOf "are_integers" "are_integers" (defArgs D_are_integers.st) (defBody D_are_integers.st) (defScope D_are_integers.st) .none kV6 dc6 pm6 an6 cd6 ct6), sl6⟩) (c6 : PySem.W.codeIn K cd6 "are_integers" = true) (k6 : PySem.W.keepIn K (.ref f6) = true)
    (a7 : PySem.W.nsIn K mainGlobals "is_sum" = some (some (.ref f7))) (l7 : K.lookup f7 = some ⟨oc7, od7, .func (PySem.W.fnOf "is_sum" "is_sum" (defArgs D_is_sum.st) (defBody D_is_sum.st) (defScope D_is_sum.st) .none kV7 dc7 pm7 an7 cd7 ct7), sl7⟩) (c7 : PySem.W.codeIn K cd7 "is_sum" = true) (k7 : PySem.W.keepIn K (.ref f7) = true)
    (a8 : PySem.W.nsIn K mainGlobals "names_of" = some (some (.ref f8))) (l8 : K.lookup f8 = some ⟨oc8, od8, .func (PySem.W.fnOf "names_of" "names_of" (defArgs D_names_of.st) (defBody D_names_of.st) (defScope D_names_of.st) .none kV8 dc8 pm8 an8 cd8 ct8), sl8⟩) (c8 : PySem.W.codeIn K cd8 "names_of" = true) (k8 : PySem.W.keepIn K (.ref f8) = true)
    (a9 : PySem.W.nsIn K mainGlobals "value_in" = some (some (.ref f9))) (l9 : K.lookup f9 = some ⟨oc9, od9, .func (PySem.W.fnOf "value_in" "value_in" (defArgs D_value_in.st) (defBody D_value_in.st) (defScope D_value_in.st) .none kV9 dc9 pm9 an9 cd9 ct9), sl9⟩) (c9 : PySem.W.codeIn K cd9 "value_in" = true) (k9 : PySem.W.keepIn K (.ref f9) = true)
    (a10 : PySem.W.nsIn K mainGlobals "holds_in" = some (some (.ref f10))) (l10 : K.lookup f10 = some ⟨oc10, od10, .func (PySem.W.fnOf "holds_in" "holds_in" (defArgs D_holds_in.st) (defBody D_holds_in.st) (defScope D_holds_in.st) .none kV10 dc10 pm10 an10 cd10 ct10), sl10⟩) (c10 : PySem.W.codeIn K cd10 "holds_in" = true) (k10 : PySem.W.keepIn K (.ref f10) = true)
    (a11 : PySem.W.nsIn K mainGlobals "is_good" = some (some (.ref f11))) (l11 : K.lookup f11 = some ⟨oc11, od11, .func (PySem.W.fnOf "is_good" "is_good" (defArgs D_is_good.st) (defBody D_is_good.st) (defScope D_is_good.st) .none kV11 dc11 pm11 an11 cd11 ct11), sl11⟩) (c11 : PySem.W.codeIn K cd11 "is_good" = true) (k11 : PySem.W.keepIn K (.ref f11) = true)
    (a12 : PySem.W.nsIn K mainGlobals "good_states" = some (some (.ref f12))) (l12 : K.lookup f12 = some ⟨oc12, od12, .func (PySem.W.fnOf "good_states" "good_states" (defArgs D_good_states.st) (defBody D_good_states.st) (defScope D_good_states.st) .none kV12 dc12 pm12 an12 cd12 ct12), sl12⟩) (c12 : PySem.W.codeIn K cd12 "good_states" = true) (k12 : PySem.W.keepIn K (.ref f12) = true)
    (a13 : PySem.W.nsIn K mainGlobals "led" = some (some (.ref f13))) (l13 : K.lookup f13 = some ⟨oc13, od13, .func (PySem.W.fnOf "led" "led" (defArgs D_led.st) (defBody D_led.st) (defScope D_led.st) .none kV13 dc13 pm13 an13 cd13 ct13), sl13⟩) (c13 : PySem.W.codeIn K cd13 "led" = true) (k13 : PySem.W.keepIn K (.ref f13) = true)
    (a14 : PySem.W.nsIn K mainGlobals "clash_of" = some (some (.ref f14))) (l14 : K.lookup f14 = some ⟨oc14, od14, .func (PySem.W.fnOf "clash_of" "clash_of" (defArgs D_clash_of.st) (defBody D_clash_of.st) (defScope D_clash_of.st) .none kV14 dc14 pm14 an14 cd14 ct14), sl14⟩) (c14 : PySem.W.codeIn K cd14 "clash_of" = true) (k14 : PySem.W.keepIn K (.ref f14) = true)
    (a15 : PySem.W.nsIn K mainGlobals "clashes" = some (some (.ref f15))) (l15 : K.lookup f15 = some ⟨oc15, od15, .func (PySem.W.fnOf "clashes" "clashes" (defArgs D_clashes.st) (defBody D_clashes.st) (defScope D_clashes.st) .none kV15 dc15 pm15 an15 cd15 ct15), sl15⟩) (c15 : PySem.W.codeIn K cd15 "clashes" = true) (k15 : PySem.W.keepIn K (.ref f15) = true)
    (a16 : PySem.W.nsIn K mainGlobals "_law_feed" = some (some (.ref f16))) (l16 : K.lookup f16 = some ⟨oc16, od16, .func (PySem.W.fnOf "_law_feed" "_law_feed" (defArgs D__law_feed.st) (defBody D__law_feed.st) (defScope D__law_feed.st) .none kV16 dc16 pm16 an16 cd16 ct16), sl16⟩) (c16 : PySem.W.codeIn K cd16 "_law_feed" = true) (k16 : PySem.W.keepIn K (.ref f16) = true)
    (a17 : PySem.W.nsIn K mainGlobals "_law_draw" = some (some (.ref f17))) (l17 : K.lookup f17 = some ⟨oc17, od17, .func (PySem.W.fnOf "_law_draw" "_law_draw" (defArgs D__law_draw.st) (defBody D__law_draw.st) (defScope D__law_draw.st) .none kV17 dc17 pm17 an17 cd17 ct17), sl17⟩) (c17 : PySem.W.codeIn K cd17 "_law_draw" = true) (k17 : PySem.W.keepIn K (.ref f17) = true)
    (a18 : PySem.W.nsIn K mainGlobals "_law_wide" = some (some (.ref f18))) (l18 : K.lookup f18 = some ⟨oc18, od18, .func (PySem.W.fnOf "_law_wide" "_law_wide" (defArgs D__law_wide.st) (defBody D__law_wide.st) (defScope D__law_wide.st) .none kV18 dc18 pm18 an18 cd18 ct18), sl18⟩) (c18 : PySem.W.codeIn K cd18 "_law_wide" = true) (k18 : PySem.W.keepIn K (.ref f18) = true)
    (a19 : PySem.W.nsIn K mainGlobals "_law_big" = some (some (.ref f19))) (l19 : K.lookup f19 = some ⟨oc19, od19, .func (PySem.W.fnOf "_law_big" "_law_big" (defArgs D__law_big.st) (defBody D__law_big.st) (defScope D__law_big.st) .none kV19 dc19 pm19 an19 cd19 ct19), sl19⟩) (c19 : PySem.W.codeIn K cd19 "_law_big" = true) (k19 : PySem.W.keepIn K (.ref f19) = true)
    (a20 : PySem.W.nsIn K mainGlobals "_law_choice" = some (some (.ref f20))) (l20 : K.lookup f20 = some ⟨oc20, od20, .func (PySem.W.fnOf "_law_choice" "_law_choice" (defArgs D__law_choice.st) (defBody D__law_choice.st) (defScope D__law_choice.st) .none kV20 dc20 pm20 an20 cd20 ct20), sl20⟩) (c20 : PySem.W.codeIn K cd20 "_law_choice" = true) (k20 : PySem.W.keepIn K (.ref f20) = true)
    (a21 : PySem.W.nsIn K mainGlobals "_law_worth" = some (some (.ref f21))) (l21 : K.lookup f21 = some ⟨oc21, od21, .func (PySem.W.fnOf "_law_worth" "_law_worth" (defArgs D__law_worth.st) (defBody D__law_worth.st) (defScope D__law_worth.st) .none kV21 dc21 pm21 an21 cd21 ct21), sl21⟩) (c21 : PySem.W.codeIn K cd21 "_law_worth" = true) (k21 : PySem.W.keepIn K (.ref f21) = true)
    (a22 : PySem.W.nsIn K mainGlobals "_law_fine" = some (some (.ref f22))) (l22 : K.lookup f22 = some ⟨oc22, od22, .func (PySem.W.fnOf "_law_fine" "_law_fine" (defArgs D__law_fine.st) (defBody D__law_fine.st) (defScope D__law_fine.st) .none kV22 dc22 pm22 an22 cd22 ct22), sl22⟩) (c22 : PySem.W.codeIn K cd22 "_law_fine" = true) (k22 : PySem.W.keepIn K (.ref f22) = true)
    (a23 : PySem.W.nsIn K mainGlobals "_law_spots" = some (some (.ref f23))) (l23 : K.lookup f23 = some ⟨oc23, od23, .func (PySem.W.fnOf "_law_spots" "_law_spots" (defArgs D__law_spots.st) (defBody D__law_spots.st) (defScope D__law_spots.st) .none kV23 dc23 pm23 an23 cd23 ct23), sl23⟩) (c23 : PySem.W.codeIn K cd23 "_law_spots" = true) (k23 : PySem.W.keepIn K (.ref f23) = true)
    (a24 : PySem.W.nsIn K mainGlobals "_law_plus" = some (some (.ref f24))) (l24 : K.lookup f24 = some ⟨oc24, od24, .func (PySem.W.fnOf "_law_plus" "_law_plus" (defArgs D__law_plus.st) (defBody D__law_plus.st) (defScope D__law_plus.st) .none kV24 dc24 pm24 an24 cd24 ct24), sl24⟩) (c24 : PySem.W.codeIn K cd24 "_law_plus" = true) (k24 : PySem.W.keepIn K (.ref f24) = true)
    (a25 : PySem.W.nsIn K mainGlobals "_law_marks" = some (some (.ref f25))) (l25 : K.lookup f25 = some ⟨oc25, od25, .func (PySem.W.fnOf "_law_marks" "_law_marks" (defArgs D__law_marks.st) (defBody D__law_marks.st) (defScope D__law_marks.st) .none kV25 dc25 pm25 an25 cd25 ct25), sl25⟩) (c25 : PySem.W.codeIn K cd25 "_law_marks" = true) (k25 : PySem.W.keepIn K (.ref f25) = true)
    (a26 : PySem.W.nsIn K mainGlobals "_law_claim" = some (some (.ref f26))) (l26 : K.lookup f26 = some ⟨oc26, od26, .func (PySem.W.fnOf "_law_claim" "_law_claim" (defArgs D__law_claim.st) (defBody D__law_claim.st) (defScope D__law_claim.st) .none kV26 dc26 pm26 an26 cd26 ct26), sl26⟩) (c26 : PySem.W.codeIn K cd26 "_law_claim" = true) (k26 : PySem.W.keepIn K (.ref f26) = true)
    (a27 : PySem.W.nsIn K mainGlobals "_law_shop" = some (some (.ref f27))) (l27 : K.lookup f27 = some ⟨oc27, od27, .func (PySem.W.fnOf "_law_shop" "_law_shop" (defArgs D__law_shop.st) (defBody D__law_shop.st) (defScope D__law_shop.st) .none kV27 dc27 pm27 an27 cd27 ct27), sl27⟩) (c27 : PySem.W.codeIn K cd27 "_law_shop" = true) (k27 : PySem.W.keepIn K (.ref f27) = true)
    (a28 : PySem.W.nsIn K mainGlobals "_law_till" = some (some (.ref f28))) (l28 : K.lookup f28 = some ⟨oc28, od28, .func (PySem.W.fnOf "_law_till" "_law_till" (defArgs D__law_till.st) (defBody D__law_till.st) (defScope D__law_till.st) .none kV28 dc28 pm28 an28 cd28 ct28), sl28⟩) (c28 : PySem.W.codeIn K cd28 "_law_till" = true) (k28 : PySem.W.keepIn K (.ref f28) = true)
    (a29 : PySem.W.nsIn K mainGlobals "_law_clash" = some (some (.ref f29))) (l29 : K.lookup f29 = some ⟨oc29, od29, .func (PySem.W.fnOf "_law_clash" "_law_clash" (defArgs D__law_clash.st) (defBody D__law_clash.st) (defScope D__law_clash.st) .none kV29 dc29 pm29 an29 cd29 ct29), sl29⟩) (c29 : PySem.W.codeIn K cd29 "_law_clash" = true) (k29 : PySem.W.keepIn K (.ref f29) = true)
    (a30 : PySem.W.nsIn K mainGlobals "_law_all_clashes" = some (some (.ref f30))) (l30 : K.lookup f30 = some ⟨oc30, od30, .func (PySem.W.fnOf "_law_all_clashes" "_law_all_clashes" (defArgs D__law_all_clashes.st) (defBody D__law_all_clashes.st) (defScope D__law_all_clashes.st) .none kV30 dc30 pm30 an30 cd30 ct30), sl30⟩) (c30 : PySem.W.codeIn K cd30 "_law_all_clashes" = true) (k30 : PySem.W.keepIn K (.ref f30) = true)
    (a31 : PySem.W.nsIn K mainGlobals "_law_agrees" = some (some (.ref f31))) (l31 : K.lookup f31 = some ⟨oc31, od31, .func (PySem.W.fnOf "_law_agrees" "_law_agrees" (defArgs D__law_agrees.st) (defBody D__law_agrees.st) (defScope D__law_agrees.st) .none kV31 dc31 pm31 an31 cd31 ct31), sl31⟩) (c31 : PySem.W.codeIn K cd31 "_law_agrees" = true) (k31 : PySem.W.keepIn K (.ref f31) = true)
    (a32 : PySem.W.nsIn K mainGlobals "law" = some (some (.ref f32))) (l32 : K.lookup f32 = some ⟨oc32, od32, .func (PySem.W.fnOf "law" "law" (defArgs D_law.st) (defBody D_law.st) (defScope D_law.st) .none kV32 dc32 pm32 an32 cd32 ct32), sl32⟩) (c32 : PySem.W.codeIn K cd32 "law" = true) (k32 : PySem.W.keepIn K (.ref f32) = true)
    (a33 : PySem.W.findIn K (.ref C_Clashing) "__init__" = some (some (.ref f33))) (l33 : K.lookup f33 = some ⟨oc33, od33, .func (PySem.W.fnOf "__init__" "Clashing.__init__" (defArgs D_Clashing_init.st) (defBody D_Clashing_init.st) (defScope D_Clashing_init.st) .none kV33 dc33 pm33 an33 cd33 ct33), sl33⟩) (c33 : PySem.W.codeIn K cd33 "Clashing.__init__" = true) (k33 : PySem.W.keepIn K (.ref f33) = true) (i33 : PySem.W.isFn K (.ref f33) = true)
    (a34 : PySem.W.findIn K (.ref C_Clashing) "clash_in" = some (some (.ref f34))) (l34 : K.lookup f34 = some ⟨oc34, od34, .func (PySem.W.fnOf "clash_in" "Clashing.clash_in" (defArgs D_Clashing_clash_in.st) (defBody D_Clashing_clash_in.st) (defScope D_Clashing_clash_in.st) .none kV34 dc34 pm34 an34 cd34 ct34), sl34⟩) (c34 : PySem.W.codeIn K cd34 "Clashing.clash_in" = true) (k34 : PySem.W.keepIn K (.ref f34) = true) (i34 : PySem.W.isFn K (.ref f34) = true)
    (a35 : PySem.W.findIn K (.ref C_Clashing) "least_state" = some (some (.ref f35))) (l35 : K.lookup f35 = some ⟨oc35, od35, .func (PySem.W.fnOf "least_state" "Clashing.least_state" (defArgs D_Clashing_least_state.st) (defBody D_Clashing_least_state.st) (defScope D_Clashing_least_state.st) .none kV35 dc35 pm35 an35 cd35 ct35), sl35⟩) (c35 : PySem.W.codeIn K cd35 "Clashing.least_state" = true) (k35 : PySem.W.keepIn K (.ref f35) = true) (i35 : PySem.W.isFn K (.ref f35) = true)
    (a36 : PySem.W.findIn K (.ref C_Clashing) "pairs" = some (some (.ref f36))) (l36 : K.lookup f36 = some ⟨oc36, od36, .func (PySem.W.fnOf "pairs" "Clashing.pairs" (defArgs D_Clashing_pairs.st) (defBody D_Clashing_pairs.st) (defScope D_Clashing_pairs.st) .none kV36 dc36 pm36 an36 cd36 ct36), sl36⟩) (c36 : PySem.W.codeIn K cd36 "Clashing.pairs" = true) (k36 : PySem.W.keepIn K (.ref f36) = true) (i36 : PySem.W.isFn K (.ref f36) = true) : AllP (Told K mg) ds :=
  ⟨⟨f0, _, PySem.W.mg_of X G a0, k0, fun_mk (st := D_sums_by_key.st) l0 c0 k0⟩, ⟨f1, _, PySem.W.mg_of X G a1, k1, fun_mk (st := D_all_keys.st) l1 c1 k1⟩, ⟨f2, _, PySem.W.mg_of X G a2, k2, fun_mk (st := D_require_keys.st) l2 c2 k2⟩, ⟨f3, _, PySem.W.mg_of X G a3, k3, fun_mk (st := D_sum_of.st) l3 c3 k3⟩, ⟨f4, _, PySem.W.mg_of X G a4, k4, fun_mk (st := D_added.st) l4 c4 k4⟩, ⟨f5, _, PySem.W.mg_of X G a5, k5, fun_mk (st := D_is_integer.st) l5 c5 k5⟩, ⟨f6, _, PySem.W.mg_of X G a6, k6, fun_mk (st := D_are_integers.st) l6 c6 k6⟩, ⟨f7, _, PySem.W.mg_of X G a7, k7, fun_mk (st := D_is_sum.st) l7 c7 k7⟩, ⟨f8, _, PySem.W.mg_of X G a8, k8, fun_mk (st := D_names_of.st) l8 c8 k8⟩, ⟨f9, _, PySem.W.mg_of X G a9, k9, fun_mk (st := D_value_in.st) l9 c9 k9⟩, ⟨f10, _, PySem.W.mg_of X G a10, k10, fun_mk (st := D_holds_in.st) l10 c10 k10⟩, ⟨f11, _, PySem.W.mg_of X G a11, k11, fun_mk (st := D_is_good.st) l11 c11 k11⟩, ⟨f12, _, PySem.W.mg_of X G a12, k12, fun_mk (st := D_good_states.st) l12 c12 k12⟩, ⟨f13, _, PySem.W.mg_of X G a13, k13, fun_mk (st := D_led.st) l13 c13 k13⟩, ⟨f14, _, PySem.W.mg_of X G a14, k14, fun_mk (st := D_clash_of.st) l14 c14 k14⟩, ⟨f15, _, PySem.W.mg_of X G a15, k15, fun_mk (st := D_clashes.st) l15 c15 k15⟩, ⟨f16, _, PySem.W.mg_of X G a16, k16, fun_mk (st := D__law_feed.st) l16 c16 k16⟩, ⟨f17, _, PySem.W.mg_of X G a17, k17, fun_mk (st := D__law_draw.st) l17 c17 k17⟩, ⟨f18, _, PySem.W.mg_of X G a18, k18, fun_mk (st := D__law_wide.st) l18 c18 k18⟩, ⟨f19, _, PySem.W.mg_of X G a19, k19, fun_mk (st := D__law_big.st) l19 c19 k19⟩, ⟨f20, _, PySem.W.mg_of X G a20, k20, fun_mk (st := D__law_choice.st) l20 c20 k20⟩, ⟨f21, _, PySem.W.mg_of X G a21, k21, fun_mk (st := D__law_worth.st) l21 c21 k21⟩, ⟨f22, _, PySem.W.mg_of X G a22, k22, fun_mk (st := D__law_fine.st) l22 c22 k22⟩, ⟨f23, _, PySem.W.mg_of X G a23, k23, fun_mk (st := D__law_spots.st) l23 c23 k23⟩, ⟨f24, _, PySem.W.mg_of X G a24, k24, fun_mk (st := D__law_plus.st) l24 c24 k24⟩, ⟨f25, _, PySem.W.mg_of X G a25, k25, fun_mk (st := D__law_marks.st) l25 c25 k25⟩, ⟨f26, _, PySem.W.mg_of X G a26, k26, fun_mk (st := D__law_claim.st) l26 c26 k26⟩, ⟨f27, _, PySem.W.mg_of X G a27, k27, fun_mk (st := D__law_shop.st) l27 c27 k27⟩, ⟨f28, _, PySem.W.mg_of X G a28, k28, fun_mk (st := D__law_till.st) l28 c28 k28⟩, ⟨f29, _, PySem.W.mg_of X G a29, k29, fun_mk (st := D__law_clash.st) l29 c29 k29⟩, ⟨f30, _, PySem.W.mg_of X G a30, k30, fun_mk (st := D__law_all_clashes.st) l30 c30 k30⟩, ⟨f31, _, PySem.W.mg_of X G a31, k31, fun_mk (st := D__law_agrees.st) l31 c31 k31⟩, ⟨f32, _, PySem.W.mg_of X G a32, k32, fun_mk (st := D_law.st) l32 c32 k32⟩, ⟨C_Clashing, f33, _, aC_Clashing, PySem.W.mg_of X G aC_Clashing, ⟨pg_Clashing, hd_Clashing, po_Clashing, sa_Clashing⟩, ⟨mk_Clashing, a33, i33, kc_Clashing⟩, ⟨n_Clashing_own_store, n_Clashing_own_keys, n_Clashing_places, trivial⟩, fun_mk (st := D_Clashing_init.st) l33 c33 k33⟩, ⟨C_Clashing, f34, _, aC_Clashing, ⟨pg_Clashing, hd_Clashing, po_Clashing, sa_Clashing⟩, ⟨a34, i34, k34⟩, fun_mk (st := D_Clashing_clash_in.st) l34 c34 k34⟩, ⟨C_Clashing, f35, _, aC_Clashing, ⟨pg_Clashing, hd_Clashing, po_Clashing, sa_Clashing⟩, ⟨a35, i35, k35⟩, fun_mk (st := D_Clashing_least_state.st) l35 c35 k35⟩, ⟨C_Clashing, f36, _, aC_Clashing, ⟨pg_Clashing, hd_Clashing, po_Clashing, sa_Clashing⟩, ⟨a36, i36, k36⟩, fun_mk (st := D_Clashing_pairs.st) l36 c36 k36⟩, trivial⟩
theorem bind_all : AllP BindOk ds := ⟨bo_sums_by_key, bo_all_keys, bo_require_keys, bo_sum_of, bo_added, bo_is_integer, bo_are_integers, bo_is_sum, bo_names_of, bo_value_in, bo_holds_in, bo_is_good, bo_good_states, bo_led, bo_clash_of, bo_clashes, bo__law_feed, bo__law_draw, bo__law_wide, bo__law_big, bo__law_choice, bo__law_worth, bo__law_fine, bo__law_spots, bo__law_plus, bo__law_marks, bo__law_claim, bo__law_shop, bo__law_till, bo__law_clash, bo__law_all_clashes, bo__law_agrees, bo_law, bo_Clashing_init, bo_Clashing_clash_in, bo_Clashing_least_state, bo_Clashing_pairs, trivial⟩
theorem okD_all : AllP (fun D => okD ds gs D = true) ds := ⟨ok_sums_by_key, ok_all_keys, ok_require_keys, ok_sum_of, ok_added, ok_is_integer, ok_are_integers, ok_is_sum, ok_names_of, ok_value_in, ok_holds_in, ok_is_good, ok_good_states, ok_led, ok_clash_of, ok_clashes, ok__law_feed, ok__law_draw, ok__law_wide, ok__law_big, ok__law_choice, ok__law_worth, ok__law_fine, ok__law_spots, ok__law_plus, ok__law_marks, ok__law_claim, ok__law_shop, ok__law_till, ok__law_clash, ok__law_all_clashes, ok__law_agrees, ok_law, ok_Clashing_init, ok_Clashing_clash_in, ok_Clashing_least_state, ok_Clashing_pairs, trivial⟩
end K19
namespace K19
open PySem L2 Ev
abbrev FU : Nat := 100
@[irreducible] def P (n : Nat) := Phi ds gs FU n
theorem s_sums_by_key {n : Nat} {x0 : PV}  {st : Cel} {Q : Kp PV} (h : @RS.w (evSs (P n) FU b_sums_by_key [.val x0, .emp, .emp, .emp, .emp] st) ⟨fun _ st => Q.run .non st, Q.run, fun _ _ => False, fun _ _ => False⟩) : @R.w _ (P (n + 1) 0 ([x0]) st) Q := by
  have e : P (n + 1) 0 ([x0]) st = fin (evSs (P n) FU b_sums_by_key [.val x0, .emp, .emp, .emp, .emp] st) := by
    unfold P
    rfl
  rw [e, w_fin]
  exact h
theorem s_all_keys {n : Nat} {x0 : PV}  {st : Cel} {Q : Kp PV} (h : @RS.w (evSs (P n) FU b_all_keys [.val x0] st) ⟨fun _ st => Q.run .non st, Q.run, fun _ _ => False, fun _ _ => False⟩) : @R.w _ (P (n + 1) 1 ([x0]) st) Q := by
  have e : P (n + 1) 1 ([x0]) st = fin (evSs (P n) FU b_all_keys [.val x0] st) := by
    unfold P
    rfl
  rw [e, w_fin]
  exact h
theorem s_require_keys {n : Nat} {x0 : PV}  {rest : List PV} {st : Cel} {Q : Kp PV} (hz : szOk rest.length = true) (h : @RS.w (evSs (P n) FU b_require_keys [.val x0, .val (.tup rest), .emp, .emp, .emp] st) ⟨fun _ st => Q.run .non st, Q.run, fun _ _ => False, fun _ _ => False⟩) : @R.w _ (P (n + 1) 2 (x0 :: rest) st) Q := by
  have e : P (n + 1) 2 (x0 :: rest) st = fin (evSs (P n) FU b_require_keys [.val x0, .val (.tup rest), .emp, .emp, .emp] st) := by
    unfold P
    rw [Phi_d (D := D_require_keys) rfl (by decide)]
    unfold Ev.run
    rw [if_pos (by rfl), if_pos (by simp [DefD.fn, D_require_keys, hz])]
    rfl
  rw [e, w_fin]
  exact h
theorem s_sum_of {n : Nat} {x0 x1 : PV}  {st : Cel} {Q : Kp PV} (h : @RS.w (evSs (P n) FU b_sum_of [.val x0, .val x1] st) ⟨fun _ st => Q.run .non st, Q.run, fun _ _ => False, fun _ _ => False⟩) : @R.w _ (P (n + 1) 3 ([x0, x1]) st) Q := by
  have e : P (n + 1) 3 ([x0, x1]) st = fin (evSs (P n) FU b_sum_of [.val x0, .val x1] st) := by
    unfold P
    rfl
  rw [e, w_fin]
  exact h
theorem s_added {n : Nat} {x0 : PV}  {rest : List PV} {st : Cel} {Q : Kp PV} (hz : szOk rest.length = true) (h : @RS.w (evSs (P n) FU b_added [.val x0, .val (.tup rest), .emp, .emp, .emp, .emp] st) ⟨fun _ st => Q.run .non st, Q.run, fun _ _ => False, fun _ _ => False⟩) : @R.w _ (P (n + 1) 4 (x0 :: rest) st) Q := by
  have e : P (n + 1) 4 (x0 :: rest) st = fin (evSs (P n) FU b_added [.val x0, .val (.tup rest), .emp, .emp, .emp, .emp] st) := by
    unfold P
    rw [Phi_d (D := D_added) rfl (by decide)]
    unfold Ev.run
    rw [if_pos (by rfl), if_pos (by simp [DefD.fn, D_added, hz])]
    rfl
  rw [e, w_fin]
  exact h
theorem s_is_integer {n : Nat} {x0 : PV}  {st : Cel} {Q : Kp PV} (h : @RS.w (evSs (P n) FU b_is_integer [.val x0] st) ⟨fun _ st => Q.run .non st, Q.run, fun _ _ => False, fun _ _ => False⟩) : @R.w _ (P (n + 1) 5 ([x0]) st) Q := by
  have e : P (n + 1) 5 ([x0]) st = fin (evSs (P n) FU b_is_integer [.val x0] st) := by
    unfold P
    rfl
  rw [e, w_fin]
  exact h
theorem s_are_integers {n : Nat} {x0 : PV}  {st : Cel} {Q : Kp PV} (h : @RS.w (evSs (P n) FU b_are_integers [.val x0, .emp] st) ⟨fun _ st => Q.run .non st, Q.run, fun _ _ => False, fun _ _ => False⟩) : @R.w _ (P (n + 1) 6 ([x0]) st) Q := by
  have e : P (n + 1) 6 ([x0]) st = fin (evSs (P n) FU b_are_integers [.val x0, .emp] st) := by
    unfold P
    rfl
  rw [e, w_fin]
  exact h
theorem s_is_sum {n : Nat} {x0 x1 : PV}  {st : Cel} {Q : Kp PV} (h : @RS.w (evSs (P n) FU b_is_sum [.val x0, .val x1] st) ⟨fun _ st => Q.run .non st, Q.run, fun _ _ => False, fun _ _ => False⟩) : @R.w _ (P (n + 1) 7 ([x0, x1]) st) Q := by
  have e : P (n + 1) 7 ([x0, x1]) st = fin (evSs (P n) FU b_is_sum [.val x0, .val x1] st) := by
    unfold P
    rfl
  rw [e, w_fin]
  exact h
theorem s_names_of {n : Nat} {x0 : PV}  {st : Cel} {Q : Kp PV} (h : @RS.w (evSs (P n) FU b_names_of [.val x0, .emp] st) ⟨fun _ st => Q.run .non st, Q.run, fun _ _ => False, fun _ _ => False⟩) : @R.w _ (P (n + 1) 8 ([x0]) st) Q := by
  have e : P (n + 1) 8 ([x0]) st = fin (evSs (P n) FU b_names_of [.val x0, .emp] st) := by
    unfold P
    rfl
  rw [e, w_fin]
  exact h
theorem s_value_in {n : Nat} {x0 x1 x2 : PV}  {st : Cel} {Q : Kp PV} (h : @RS.w (evSs (P n) FU b_value_in [.val x0, .val x1, .val x2, .emp, .emp, .emp, .emp, .emp] st) ⟨fun _ st => Q.run .non st, Q.run, fun _ _ => False, fun _ _ => False⟩) : @R.w _ (P (n + 1) 9 ([x0, x1, x2]) st) Q := by
  have e : P (n + 1) 9 ([x0, x1, x2]) st = fin (evSs (P n) FU b_value_in [.val x0, .val x1, .val x2, .emp, .emp, .emp, .emp, .emp] st) := by
    unfold P
    rfl
  rw [e, w_fin]
  exact h
theorem s_holds_in {n : Nat} {x0 x1 x2 : PV}  {st : Cel} {Q : Kp PV} (h : @RS.w (evSs (P n) FU b_holds_in [.val x0, .val x1, .val x2, .emp, .emp, .emp, .emp, .emp] st) ⟨fun _ st => Q.run .non st, Q.run, fun _ _ => False, fun _ _ => False⟩) : @R.w _ (P (n + 1) 10 ([x0, x1, x2]) st) Q := by
  have e : P (n + 1) 10 ([x0, x1, x2]) st = fin (evSs (P n) FU b_holds_in [.val x0, .val x1, .val x2, .emp, .emp, .emp, .emp, .emp] st) := by
    unfold P
    rfl
  rw [e, w_fin]
  exact h
theorem s_is_good {n : Nat} {x0 x1 : PV}  {st : Cel} {Q : Kp PV} (h : @RS.w (evSs (P n) FU b_is_good [.val x0, .val x1, .emp, .emp, .emp, .emp, .emp, .emp, .emp, .emp] st) ⟨fun _ st => Q.run .non st, Q.run, fun _ _ => False, fun _ _ => False⟩) : @R.w _ (P (n + 1) 11 ([x0, x1]) st) Q := by
  have e : P (n + 1) 11 ([x0, x1]) st = fin (evSs (P n) FU b_is_good [.val x0, .val x1, .emp, .emp, .emp, .emp, .emp, .emp, .emp, .emp] st) := by
    unfold P
    rfl
  rw [e, w_fin]
  exact h
theorem s_good_states {n : Nat} {x0 : PV}  {st : Cel} {Q : Kp PV} (h : @RS.w (evSs (P n) FU b_good_states [.val x0, .emp, .emp, .emp, .emp, .emp, .emp] st) ⟨fun _ st => Q.run .non st, Q.run, fun _ _ => False, fun _ _ => False⟩) : @R.w _ (P (n + 1) 12 ([x0]) st) Q := by
  have e : P (n + 1) 12 ([x0]) st = fin (evSs (P n) FU b_good_states [.val x0, .emp, .emp, .emp, .emp, .emp, .emp] st) := by
    unfold P
    rfl
  rw [e, w_fin]
  exact h
theorem s_led {n : Nat} {x0 x1 : PV}  {rest : List PV} {st : Cel} {Q : Kp PV} (hz : szOk rest.length = true) (h : @RS.w (evSs (P n) FU b_led [.val x0, .val x1, .val (.tup rest), .emp, .emp] st) ⟨fun _ st => Q.run .non st, Q.run, fun _ _ => False, fun _ _ => False⟩) : @R.w _ (P (n + 1) 13 (x0 :: x1 :: rest) st) Q := by
  have e : P (n + 1) 13 (x0 :: x1 :: rest) st = fin (evSs (P n) FU b_led [.val x0, .val x1, .val (.tup rest), .emp, .emp] st) := by
    unfold P
    rw [Phi_d (D := D_led) rfl (by decide)]
    unfold Ev.run
    rw [if_pos (by rfl), if_pos (by simp [DefD.fn, D_led, hz])]
    rfl
  rw [e, w_fin]
  exact h
theorem s_clash_of {n : Nat} {x0 x1 x2 : PV}  {st : Cel} {Q : Kp PV} (h : @RS.w (evSs (P n) FU b_clash_of [.val x0, .val x1, .val x2] st) ⟨fun _ st => Q.run .non st, Q.run, fun _ _ => False, fun _ _ => False⟩) : @R.w _ (P (n + 1) 14 ([x0, x1, x2]) st) Q := by
  have e : P (n + 1) 14 ([x0, x1, x2]) st = fin (evSs (P n) FU b_clash_of [.val x0, .val x1, .val x2] st) := by
    unfold P
    rfl
  rw [e, w_fin]
  exact h
theorem s_clashes {n : Nat} {x0 : PV}  {st : Cel} {Q : Kp PV} (h : @RS.w (evSs (P n) FU b_clashes [.val x0] st) ⟨fun _ st => Q.run .non st, Q.run, fun _ _ => False, fun _ _ => False⟩) : @R.w _ (P (n + 1) 15 ([x0]) st) Q := by
  have e : P (n + 1) 15 ([x0]) st = fin (evSs (P n) FU b_clashes [.val x0] st) := by
    unfold P
    rfl
  rw [e, w_fin]
  exact h
theorem s__law_feed {n : Nat} {x0 : PV}  {st : Cel} {Q : Kp PV} (h : @RS.w (evSs (P n) FU b__law_feed [.val x0] st) ⟨fun _ st => Q.run .non st, Q.run, fun _ _ => False, fun _ _ => False⟩) : @R.w _ (P (n + 1) 16 ([x0]) st) Q := by
  have e : P (n + 1) 16 ([x0]) st = fin (evSs (P n) FU b__law_feed [.val x0] st) := by
    unfold P
    rfl
  rw [e, w_fin]
  exact h
theorem s__law_draw {n : Nat} {x0 x1 : PV}  {st : Cel} {Q : Kp PV} (h : @RS.w (evSs (P n) FU b__law_draw [.val x0, .val x1, .emp, .emp, .emp] st) ⟨fun _ st => Q.run .non st, Q.run, fun _ _ => False, fun _ _ => False⟩) : @R.w _ (P (n + 1) 17 ([x0, x1]) st) Q := by
  have e : P (n + 1) 17 ([x0, x1]) st = fin (evSs (P n) FU b__law_draw [.val x0, .val x1, .emp, .emp, .emp] st) := by
    unfold P
    rfl
  rw [e, w_fin]
  exact h
theorem s__law_wide {n : Nat}  {st : Cel} {Q : Kp PV} (h : @RS.w (evSs (P n) FU b__law_wide [.emp] st) ⟨fun _ st => Q.run .non st, Q.run, fun _ _ => False, fun _ _ => False⟩) : @R.w _ (P (n + 1) 18 ([]) st) Q := by
  have e : P (n + 1) 18 [] st = fin (evSs (P n) FU b__law_wide [.emp] st) := by
    unfold P
    rw [Phi_d (D := D__law_wide) rfl (by decide)]
    unfold Ev.run
    rw [if_neg (by decide), if_pos (by rfl)]
    rfl
  rw [e, w_fin]
  exact h
theorem s__law_big {n : Nat}  {st : Cel} {Q : Kp PV} (h : @RS.w (evSs (P n) FU b__law_big [.emp] st) ⟨fun _ st => Q.run .non st, Q.run, fun _ _ => False, fun _ _ => False⟩) : @R.w _ (P (n + 1) 19 ([]) st) Q := by
  have e : P (n + 1) 19 [] st = fin (evSs (P n) FU b__law_big [.emp] st) := by
    unfold P
    rw [Phi_d (D := D__law_big) rfl (by decide)]
    unfold Ev.run
    rw [if_neg (by decide), if_pos (by rfl)]
    rfl
  rw [e, w_fin]
  exact h
theorem s__law_choice {n : Nat} {x0 x1 : PV}  {st : Cel} {Q : Kp PV} (h : @RS.w (evSs (P n) FU b__law_choice [.val x0, .val x1] st) ⟨fun _ st => Q.run .non st, Q.run, fun _ _ => False, fun _ _ => False⟩) : @R.w _ (P (n + 1) 20 ([x0, x1]) st) Q := by
  have e : P (n + 1) 20 ([x0, x1]) st = fin (evSs (P n) FU b__law_choice [.val x0, .val x1] st) := by
    unfold P
    rfl
  rw [e, w_fin]
  exact h
theorem s__law_worth {n : Nat} {x0 x1 x2 : PV}  {st : Cel} {Q : Kp PV} (h : @RS.w (evSs (P n) FU b__law_worth [.val x0, .val x1, .val x2, .emp, .emp, .emp, .emp] st) ⟨fun _ st => Q.run .non st, Q.run, fun _ _ => False, fun _ _ => False⟩) : @R.w _ (P (n + 1) 21 ([x0, x1, x2]) st) Q := by
  have e : P (n + 1) 21 ([x0, x1, x2]) st = fin (evSs (P n) FU b__law_worth [.val x0, .val x1, .val x2, .emp, .emp, .emp, .emp] st) := by
    unfold P
    rfl
  rw [e, w_fin]
  exact h
theorem s__law_fine {n : Nat} {x0 x1 : PV}  {st : Cel} {Q : Kp PV} (h : @RS.w (evSs (P n) FU b__law_fine [.val x0, .val x1, .emp, .emp, .emp, .emp, .emp] st) ⟨fun _ st => Q.run .non st, Q.run, fun _ _ => False, fun _ _ => False⟩) : @R.w _ (P (n + 1) 22 ([x0, x1]) st) Q := by
  have e : P (n + 1) 22 ([x0, x1]) st = fin (evSs (P n) FU b__law_fine [.val x0, .val x1, .emp, .emp, .emp, .emp, .emp] st) := by
    unfold P
    rfl
  rw [e, w_fin]
  exact h
theorem s__law_spots {n : Nat} {x0 : PV}  {st : Cel} {Q : Kp PV} (h : @RS.w (evSs (P n) FU b__law_spots [.val x0, .emp, .emp, .emp, .emp, .emp, .emp, .emp] st) ⟨fun _ st => Q.run .non st, Q.run, fun _ _ => False, fun _ _ => False⟩) : @R.w _ (P (n + 1) 23 ([x0]) st) Q := by
  have e : P (n + 1) 23 ([x0]) st = fin (evSs (P n) FU b__law_spots [.val x0, .emp, .emp, .emp, .emp, .emp, .emp, .emp] st) := by
    unfold P
    rfl
  rw [e, w_fin]
  exact h
theorem s__law_plus {n : Nat} {x0 x1 : PV}  {st : Cel} {Q : Kp PV} (h : @RS.w (evSs (P n) FU b__law_plus [.val x0, .val x1, .emp, .emp] st) ⟨fun _ st => Q.run .non st, Q.run, fun _ _ => False, fun _ _ => False⟩) : @R.w _ (P (n + 1) 24 ([x0, x1]) st) Q := by
  have e : P (n + 1) 24 ([x0, x1]) st = fin (evSs (P n) FU b__law_plus [.val x0, .val x1, .emp, .emp] st) := by
    unfold P
    rfl
  rw [e, w_fin]
  exact h
theorem s__law_marks {n : Nat} {x0 : PV}  {st : Cel} {Q : Kp PV} (h : @RS.w (evSs (P n) FU b__law_marks [.val x0, .emp, .emp, .emp, .emp, .emp] st) ⟨fun _ st => Q.run .non st, Q.run, fun _ _ => False, fun _ _ => False⟩) : @R.w _ (P (n + 1) 25 ([x0]) st) Q := by
  have e : P (n + 1) 25 ([x0]) st = fin (evSs (P n) FU b__law_marks [.val x0, .emp, .emp, .emp, .emp, .emp] st) := by
    unfold P
    rfl
  rw [e, w_fin]
  exact h
theorem s__law_claim {n : Nat} {x0 x1 x2 : PV}  {st : Cel} {Q : Kp PV} (h : @RS.w (evSs (P n) FU b__law_claim [.val x0, .val x1, .val x2, .emp, .emp, .emp] st) ⟨fun _ st => Q.run .non st, Q.run, fun _ _ => False, fun _ _ => False⟩) : @R.w _ (P (n + 1) 26 ([x0, x1, x2]) st) Q := by
  have e : P (n + 1) 26 ([x0, x1, x2]) st = fin (evSs (P n) FU b__law_claim [.val x0, .val x1, .val x2, .emp, .emp, .emp] st) := by
    unfold P
    rfl
  rw [e, w_fin]
  exact h
theorem s__law_shop {n : Nat} {x0 : PV}  {st : Cel} {Q : Kp PV} (h : @RS.w (evSs (P n) FU b__law_shop [.val x0, .emp, .emp, .emp, .emp, .emp, .emp, .emp, .emp, .emp, .emp, .emp, .emp] st) ⟨fun _ st => Q.run .non st, Q.run, fun _ _ => False, fun _ _ => False⟩) : @R.w _ (P (n + 1) 27 ([x0]) st) Q := by
  have e : P (n + 1) 27 ([x0]) st = fin (evSs (P n) FU b__law_shop [.val x0, .emp, .emp, .emp, .emp, .emp, .emp, .emp, .emp, .emp, .emp, .emp, .emp] st) := by
    unfold P
    rfl
  rw [e, w_fin]
  exact h
theorem s__law_till {n : Nat}  {st : Cel} {Q : Kp PV} (h : @RS.w (evSs (P n) FU b__law_till [] st) ⟨fun _ st => Q.run .non st, Q.run, fun _ _ => False, fun _ _ => False⟩) : @R.w _ (P (n + 1) 28 ([]) st) Q := by
  have e : P (n + 1) 28 [] st = fin (evSs (P n) FU b__law_till [] st) := by
    unfold P
    rw [Phi_d (D := D__law_till) rfl (by decide)]
    unfold Ev.run
    rw [if_neg (by decide), if_pos (by rfl)]
    rfl
  rw [e, w_fin]
  exact h
theorem s__law_clash {n : Nat} {x0 x1 x2 : PV}  {st : Cel} {Q : Kp PV} (h : @RS.w (evSs (P n) FU b__law_clash [.val x0, .val x1, .val x2, .emp, .emp, .emp] st) ⟨fun _ st => Q.run .non st, Q.run, fun _ _ => False, fun _ _ => False⟩) : @R.w _ (P (n + 1) 29 ([x0, x1, x2]) st) Q := by
  have e : P (n + 1) 29 ([x0, x1, x2]) st = fin (evSs (P n) FU b__law_clash [.val x0, .val x1, .val x2, .emp, .emp, .emp] st) := by
    unfold P
    rfl
  rw [e, w_fin]
  exact h
theorem s__law_all_clashes {n : Nat} {x0 : PV}  {st : Cel} {Q : Kp PV} (h : @RS.w (evSs (P n) FU b__law_all_clashes [.val x0, .emp, .emp, .emp, .emp, .emp] st) ⟨fun _ st => Q.run .non st, Q.run, fun _ _ => False, fun _ _ => False⟩) : @R.w _ (P (n + 1) 30 ([x0]) st) Q := by
  have e : P (n + 1) 30 ([x0]) st = fin (evSs (P n) FU b__law_all_clashes [.val x0, .emp, .emp, .emp, .emp, .emp] st) := by
    unfold P
    rfl
  rw [e, w_fin]
  exact h
theorem s__law_agrees {n : Nat} {x0 : PV}  {st : Cel} {Q : Kp PV} (h : @RS.w (evSs (P n) FU b__law_agrees [.val x0, .emp, .emp, .emp, .emp, .emp, .emp] st) ⟨fun _ st => Q.run .non st, Q.run, fun _ _ => False, fun _ _ => False⟩) : @R.w _ (P (n + 1) 31 ([x0]) st) Q := by
  have e : P (n + 1) 31 ([x0]) st = fin (evSs (P n) FU b__law_agrees [.val x0, .emp, .emp, .emp, .emp, .emp, .emp] st) := by
    unfold P
    rfl
  rw [e, w_fin]
  exact h
theorem s_law {n : Nat} {x0 : PV}  {st : Cel} {Q : Kp PV} (h : @RS.w (evSs (P n) FU b_law [.val x0, .emp, .emp, .emp] st) ⟨fun _ st => Q.run .non st, Q.run, fun _ _ => False, fun _ _ => False⟩) : @R.w _ (P (n + 1) 32 ([x0]) st) Q := by
  have e : P (n + 1) 32 ([x0]) st = fin (evSs (P n) FU b_law [.val x0, .emp, .emp, .emp] st) := by
    unfold P
    rfl
  rw [e, w_fin]
  exact h
@[irreducible] def o_Clashing (y_own_store y_own_keys y_places : PV) : PV := .obj "Clashing" ["own_store", "own_keys", "places"] [y_own_store, y_own_keys, y_places]
@[simp] theorem at_Clashing_own_store {y_own_store y_own_keys y_places : PV} : attrV "Clashing" "own_store" (o_Clashing y_own_store y_own_keys y_places) = some y_own_store := by with_unfolding_all rfl
@[simp] theorem at_Clashing_own_keys {y_own_store y_own_keys y_places : PV} : attrV "Clashing" "own_keys" (o_Clashing y_own_store y_own_keys y_places) = some y_own_keys := by with_unfolding_all rfl
@[simp] theorem at_Clashing_places {y_own_store y_own_keys y_places : PV} : attrV "Clashing" "places" (o_Clashing y_own_store y_own_keys y_places) = some y_places := by with_unfolding_all rfl
@[simp] theorem is_Clashing_clash_in {y_own_store y_own_keys y_places : PV} : isObj "Clashing" "clash_in" (o_Clashing y_own_store y_own_keys y_places) = true := by with_unfolding_all rfl
@[simp] theorem is_Clashing_least_state {y_own_store y_own_keys y_places : PV} : isObj "Clashing" "least_state" (o_Clashing y_own_store y_own_keys y_places) = true := by with_unfolding_all rfl
@[simp] theorem is_Clashing_pairs {y_own_store y_own_keys y_places : PV} : isObj "Clashing" "pairs" (o_Clashing y_own_store y_own_keys y_places) = true := by with_unfolding_all rfl
theorem s_Clashing_init {n : Nat} {x1 : PV} {st : Cel} {Q : Kp PV} (h : @R.w _ (ev (P n) (.var 1) [.emp, .val x1] st) ⟨fun t_own_store st => @R.w _ (ev (P n) (.call 1 (.cons (.var 1) .nil)) [.emp, .val x1] st) ⟨fun t_own_keys st => @R.w _ (ev (P n) (.glist 12 (.cons (.var 1) .nil)) [.emp, .val x1] st) ⟨fun t_places st => Q.run (o_Clashing t_own_store t_own_keys t_places) st⟩⟩⟩) : @R.w _ (P (n + 1) 33 [x1] st) Q := by
  have e : P (n + 1) 33 [x1] st = evI (P n) "Clashing" b_Clashing_init [.emp, .val x1] st [] [] := by
    unfold P
    rw [Phi_i (D := D_Clashing_init) rfl (by decide)]
    rfl
  rw [e]
  unfold b_Clashing_init
  refine e_at (by decide) (R.w_mono h fun t_own_store st h => ?_)
  refine e_at (by decide) (R.w_mono h fun t_own_keys st h => ?_)
  refine e_at (by decide) (R.w_mono h fun t_places st h => ?_)
  exact e_nil (by with_unfolding_all exact h)
theorem s_Clashing_clash_in {n : Nat} {x0 x1 x2 x3 : PV}  {st : Cel} {Q : Kp PV} (h : @RS.w (evSs (P n) FU b_Clashing_clash_in [.val x0, .val x1, .val x2, .val x3] st) ⟨fun _ st => Q.run .non st, Q.run, fun _ _ => False, fun _ _ => False⟩) : @R.w _ (P (n + 1) 34 ([x0, x1, x2, x3]) st) Q := by
  have e : P (n + 1) 34 ([x0, x1, x2, x3]) st = fin (evSs (P n) FU b_Clashing_clash_in [.val x0, .val x1, .val x2, .val x3] st) := by
    unfold P
    rfl
  rw [e, w_fin]
  exact h
theorem s_Clashing_least_state {n : Nat} {x0 x1 x2 : PV}  {st : Cel} {Q : Kp PV} (h : @RS.w (evSs (P n) FU b_Clashing_least_state [.val x0, .val x1, .val x2, .emp] st) ⟨fun _ st => Q.run .non st, Q.run, fun _ _ => False, fun _ _ => False⟩) : @R.w _ (P (n + 1) 35 ([x0, x1, x2]) st) Q := by
  have e : P (n + 1) 35 ([x0, x1, x2]) st = fin (evSs (P n) FU b_Clashing_least_state [.val x0, .val x1, .val x2, .emp] st) := by
    unfold P
    rfl
  rw [e, w_fin]
  exact h
theorem s_Clashing_pairs {n : Nat} {x0 : PV}  {st : Cel} {Q : Kp PV} (h : @RS.w (evSs (P n) FU b_Clashing_pairs [.val x0, .emp, .emp, .emp, .emp] st) ⟨fun _ st => Q.run .non st, Q.run, fun _ _ => False, fun _ _ => False⟩) : @R.w _ (P (n + 1) 36 ([x0]) st) Q := by
  have e : P (n + 1) 36 ([x0]) st = fin (evSs (P n) FU b_Clashing_pairs [.val x0, .emp, .emp, .emp, .emp] st) := by
    unfold P
    rfl
  rw [e, w_fin]
  exact h
end K19
namespace K19
open PySem L2 Ev
/-! ### items, states, expressions -/
abbrev It := List (Str × Int × Int)
def entV (E : It) : PV := .tup (E.map fun e => .tup [.str e.1, .int e.2.1, .int e.2.2])
def slots (E : It) : PV := .tup (E.map fun e => .str e.1)
def nm (E : It) (j : Nat) : Str := ((E[j]?).map (·.1)).getD ""
def GoodE (E : It) : Prop := (∃ s l h, E = [(s, l, h)] ∧ PyData.strOk s = true) ∨ (∃ s l h t l' h', E = [(s, l, h), (t, l', h')] ∧ s ≠ t ∧ PyData.strOk s = true ∧ PyData.strOk t = true)
inductive Op where | add | sub | mul
def Op.s : Op → Str
  | .add => "+"
  | .sub => "-"
  | .mul => "*"
def Op.f : Op → Int → Int → Int
  | .add, a, b => a + b
  | .sub, a, b => a - b
  | .mul, a, b => a * b
inductive NX where | lit (i : Int) | item (j : Nat) | op (o : Op) (a b : NX)
def NX.pv (E : It) : NX → PV
  | .lit i => .int i
  | .item j => .tup [.str "item", .str (nm E j)]
  | .op o a b => .tup [.str o.s, a.pv E, b.pv E]
def NX.val (xs : List Int) : NX → Int
  | .lit i => i
  | .item j => xs.getD j 0
  | .op o a b => o.f (a.val xs) (b.val xs)
def NX.ok (k : Nat) : NX → Prop
  | .lit _ => True
  | .item j => j < k
  | .op _ a b => a.ok k ∧ b.ok k
def NX.dep : NX → Nat
  | .op _ a b => a.dep + b.dep + 1
  | _ => 0
/-- the values stay small -/
def NX.sm (xs : List Int) : NX → Prop
  | .op o a b => a.sm xs ∧ b.sm xs ∧ -1000000000000 < a.val xs ∧ a.val xs < 1000000000000
  | _ => True
theorem index_ok {E : It} (g : GoodE E) {j : Nat} (h : j < E.length) : indexV (.lst (E.map fun e => .str e.1)) (.str (nm E j)) = some (.int (j : Nat)) := by
  rcases g with ⟨s, l, hh, rfl, h1⟩ | ⟨s, l, hh, t, l', h', rfl, hne, h1, h2⟩
  · match j, h with
    | 0, _ => simp [indexV, PV.data, PV.dataL, nm, SeqAt.shaped, PyData.canLay0, PyData.canLayAll0, PyData.depth, PyData.depthAll, h1, indexD, PyData.eqv]
  · match j, h with
    | 0, _ => simp [indexV, PV.data, PV.dataL, nm, SeqAt.shaped, PyData.canLay0, PyData.canLayAll0, PyData.depth, PyData.depthAll, h1, h2, indexD, PyData.eqv]
    | 1, _ => simp [indexV, PV.data, PV.dataL, nm, SeqAt.shaped, PyData.canLay0, PyData.canLayAll0, PyData.depth, PyData.depthAll, h1, h2, indexD, PyData.eqv, hne]
theorem is_integer_int {n : Nat} {st : Cel} {i : Int} {Q : Kp PV} (q : Q.run (.bl true) st) : @R.w _ (P (n + 1) 5 [.int i] st) Q := by
  apply s_is_integer; unfold b_is_integer
  simpa using q
theorem is_integer_tup {n : Nat} {st : Cel} {xs : List PV} {Q : Kp PV} (q : Q.run (.bl false) st) : @R.w _ (P (n + 1) 5 [.tup xs] st) Q := by
  apply s_is_integer; unfold b_is_integer
  simpa using q
theorem names_of_ok {n : Nat} {st : Cel} {E : It} {Q : Kp PV} (g : E.length ≤ 1000) (q : Q.run (.lst (E.map fun e => .str e.1)) st) : @R.w _ (P (n + 1) 8 [entV E] st) Q := by
  apply s_names_of; unfold b_names_of entV
  simp
  refine compL_wmap (fun x => match x with
    | .tup (a :: _) => a
    | _ => .non) ?_ ?_
  · intro x hx
    obtain ⟨e, _, rfl⟩ := List.mem_map.mp hx
    apply R.w_is
    rw [w_turn]
    simp
  · rw [Kp_run, List.map_map, List.length_map, szOk_of (by omega)]
    simp only [if_true, R.w_ok]
    exact q
theorem atP_zs {xs : List Int} {j : Nat} (h : j < xs.length) : atP (zs xs) (j : Int) = some (.int (xs.getD j 0)) := by
  rw [atP_nat (by simpa using h)]
  simp [zs, List.getD, List.getElem?_eq_getElem h]
theorem value_ok {E : It} (g : GoodE E) {xs : List Int} (hx : xs.length = E.length) (st : Cel) : ∀ (x : NX) (n : Nat) {Q : Kp PV}, x.ok E.length → x.sm xs → x.dep + 2 ≤ n → Q.run (.int (x.val xs)) st → @R.w _ (P n 9 [entV E, .tup (zs xs), x.pv E] st) Q
  | .lit i, n + 2, Q, _, _, _, q => by
    show @R.w _ (P _ 9 [entV E, .tup (zs xs), .int i] st) Q
    apply s_value_in; unfold b_value_in
    simp
    apply is_integer_int
    simp
    exact q
  | .item j, n + 2, Q, ho, _, _, q => by
    have hj : j < E.length := ho
    have hl : E.length ≤ 1000 := by rcases g with ⟨s, l, hh, rfl, h1⟩ | ⟨s, l, hh, t, l', h', rfl, hne, h1, h2⟩ <;> simp
    show @R.w _ (P _ 9 [entV E, .tup (zs xs), .tup [.str "item", .str (nm E j)]] st) Q
    apply s_value_in; unfold b_value_in
    simp
    apply is_integer_tup
    simp
    apply names_of_ok hl
    simp [index_ok g hj]
    rw [atP_zs (by omega), R.of_some, R.w_ok]
    exact q
  | .op o a b, n + 2, Q, ⟨ha, hb⟩, ⟨sa, sb, lo, hi⟩, hn, q => by
    have hn : a.dep + b.dep + 1 + 2 ≤ n + 2 := hn
    show @R.w _ (P _ 9 [entV E, .tup (zs xs), .tup [.str o.s, a.pv E, b.pv E]] st) Q
    apply s_value_in; unfold b_value_in
    simp
    apply is_integer_tup
    cases o with
    | add =>
      change @Kp.run PV Q (.int (a.val xs + b.val xs)) st at q
      simp [Op.s]
      refine value_ok g hx st a (n + 1) ha sa (by omega) ?_
      simp
      refine value_ok g hx st b (n + 1) hb sb (by omega) ?_
      simp
      exact q
    | sub =>
      change @Kp.run PV Q (.int (a.val xs - b.val xs)) st at q
      simp [Op.s]
      refine value_ok g hx st a (n + 1) ha sa (by omega) ?_
      simp
      refine value_ok g hx st b (n + 1) hb sb (by omega) ?_
      simp
      exact q
    | mul =>
      change @Kp.run PV Q (.int (a.val xs * b.val xs)) st at q
      simp [Op.s]
      refine value_ok g hx st a (n + 1) ha sa (by omega) ?_
      simp
      refine value_ok g hx st b (n + 1) hb sb (by omega) ?_
      simp (disch := omega) [bin_mulc]
      exact q
/-! ### conditions -/
inductive CX where | rel (w : Bool) (a b : NX) | no (c : CX) | bin (w : Bool) (a b : CX)
def CX.pv (E : It) : CX → PV
  | .rel true a b => .tup [.str "=", a.pv E, b.pv E]
  | .rel false a b => .tup [.str "<", a.pv E, b.pv E]
  | .no c => .tup [.str "not", c.pv E]
  | .bin true a b => .tup [.str "and", a.pv E, b.pv E]
  | .bin false a b => .tup [.str "or", a.pv E, b.pv E]
def CX.val (xs : List Int) : CX → Bool
  | .rel true a b => a.val xs == b.val xs
  | .rel false a b => decide (a.val xs < b.val xs)
  | .no c => !c.val xs
  | .bin true a b => a.val xs && b.val xs
  | .bin false a b => a.val xs || b.val xs
def CX.ok (k : Nat) : CX → Prop
  | .rel _ a b => a.ok k ∧ b.ok k
  | .no c => c.ok k
  | .bin _ a b => a.ok k ∧ b.ok k
def CX.sm (xs : List Int) : CX → Prop
  | .rel _ a b => a.sm xs ∧ b.sm xs
  | .no c => c.sm xs
  | .bin _ a b => a.sm xs ∧ b.sm xs
def CX.dep : CX → Nat
  | .rel _ a b => a.dep + b.dep + 1
  | .no c => c.dep + 1
  | .bin _ a b => a.dep + b.dep + 1
theorem holds_ok {E : It} (g : GoodE E) {xs : List Int} (hx : xs.length = E.length) (st : Cel) : ∀ (x : CX) (n : Nat) {Q : Kp PV}, x.ok E.length → x.sm xs → x.dep + 2 ≤ n → Q.run (.bl (x.val xs)) st → @R.w _ (P n 10 [entV E, .tup (zs xs), x.pv E] st) Q
  | .rel w a b, n + 2, Q, ⟨ha, hb⟩, ⟨sa, sb⟩, hn, q => by
    have hn : a.dep + b.dep + 1 + 2 ≤ n + 2 := hn
    cases w with
    | true =>
      show @R.w _ (P _ 10 [entV E, .tup (zs xs), .tup [.str "=", a.pv E, b.pv E]] st) Q
      apply s_holds_in; unfold b_holds_in
      simp
      refine value_ok g hx st a (n + 1) ha sa (by omega) ?_
      simp
      refine value_ok g hx st b (n + 1) hb sb (by omega) ?_
      simp
      exact q
    | false =>
      show @R.w _ (P _ 10 [entV E, .tup (zs xs), .tup [.str "<", a.pv E, b.pv E]] st) Q
      apply s_holds_in; unfold b_holds_in
      simp
      refine value_ok g hx st a (n + 1) ha sa (by omega) ?_
      simp
      refine value_ok g hx st b (n + 1) hb sb (by omega) ?_
      simp
      exact q
  | .no c, n + 2, Q, ho, hs, hn, q => by
    have hn : c.dep + 1 + 2 ≤ n + 2 := hn
    show @R.w _ (P _ 10 [entV E, .tup (zs xs), .tup [.str "not", c.pv E]] st) Q
    apply s_holds_in; unfold b_holds_in
    simp
    refine holds_ok g hx st c (n + 1) ho hs (by omega) ?_
    simp
    exact q
  | .bin w a b, n + 2, Q, ⟨ha, hb⟩, ⟨sa, sb⟩, hn, q => by
    have hn : a.dep + b.dep + 1 + 2 ≤ n + 2 := hn
    cases w with
    | true =>
      show @R.w _ (P _ 10 [entV E, .tup (zs xs), .tup [.str "and", a.pv E, b.pv E]] st) Q
      change @Kp.run PV Q (.bl (a.val xs && b.val xs)) st at q
      apply s_holds_in; unfold b_holds_in
      simp
      refine holds_ok g hx st a (n + 1) ha sa (by omega) ?_
      simp
      split
      · refine holds_ok g hx st b (n + 1) hb sb (by omega) ?_
        simp_all
      · simp_all
    | false =>
      show @R.w _ (P _ 10 [entV E, .tup (zs xs), .tup [.str "or", a.pv E, b.pv E]] st) Q
      change @Kp.run PV Q (.bl (a.val xs || b.val xs)) st at q
      apply s_holds_in; unfold b_holds_in
      simp
      refine holds_ok g hx st a (n + 1) ha sa (by omega) ?_
      simp
      split
      · simp_all
      · refine holds_ok g hx st b (n + 1) hb sb (by omega) ?_
        simp_all
/-! ### sums -/
theorem comp_zip {f : PV → Cel → R (Option PV)} {st : Cel} (h : Int → Int → Int) (hf : ∀ i j, f (.tup [.int i, .int j]) st = .ok (some (.int (h i j))) st) : ∀ a b : List Int, compL f (((zs a).zip (zs b)).map fun p => .tup [p.1, p.2]) st = .ok (zs (List.zipWith h a b)) st
  | [], b => rfl
  | x :: a, [] => rfl
  | x :: a, y :: b => by
    show compL f (.tup [.int x, .int y] :: ((zs a).zip (zs b)).map fun p => .tup [p.1, p.2]) st = _
    rw [compL, hf]
    show (compL f _ st).bind _ = _
    rw [comp_zip h hf a b]
    rfl
theorem compL_wzs {f : PV → Cel → R (Option PV)} {xs : List Int} {st : Cel} {Q : Kp (List PV)} (g : Int → Int) (h : ∀ i, f (.int i) st = .ok (some (.int (g i))) st) (q : Q.run (zs (xs.map g)) st) : @R.w _ (compL f (zs xs) st) Q := by
  refine compL_wmap (fun x => match x with
    | .int i => .int (g i)
    | _ => .non) ?_ ?_
  · intro x hx
    obtain ⟨i, _, rfl⟩ := List.mem_map.mp hx
    exact h i
  · unfold zs at q ⊢
    rw [List.map_map] at q ⊢
    exact q
def plus (a b : List Int) : List Int := List.zipWith (· + ·) a b
structure AddI (Q : Kp PV) (st : Cel) (r : List PV) (ρ : En) (s : Cel) : Prop where
  ex : s = st ∧ ∃ (c : List Int) (bs : List (List Int)) (x y z : Slot), c.length ≤ 1000 ∧ r = bs.map (fun b => PV.tup (zs b)) ∧ ρ = [x, y, .val (.tup (zs c)), z, .emp, .emp] ∧ Q.run (.tup (zs (bs.foldl plus c))) st
theorem added_ok {n : Nat} {st : Cel} {Q : Kp PV} (a : List Int) (bs : List (List Int)) (ha : a.length ≤ 1000) (hl : bs.length ≤ 1000) (q : Q.run (.tup (zs (bs.foldl plus a))) st) : @R.w _ (P (n + 1) 4 (.tup (zs a) :: bs.map fun b => .tup (zs b)) st) Q := by
  refine s_added (szOk_of (by rw [List.length_map]; omega)) ?_
  unfold b_added
  simp
  refine forL_w (AddI Q st) ⟨rfl, a, bs, _, _, _, ha, rfl, rfl, q⟩ ?_ ?_
  · rintro x r ρ s ⟨rfl, c, bs, x1, y1, z1, hc, e, rfl, q⟩
    cases bs with
    | nil => cases e
    | cons b bs =>
      cases e
      rw [bodyL_1]
      simp
      rw [comp_zip (· + ·)]
      · have hl : (List.zipWith (· + ·) c b).length ≤ 1000 := by rw [List.length_zipWith]; omega
        simp (disch := omega) [szOk_of]
        exact ⟨rfl, _, bs, _, _, _, hl, rfl, rfl, q⟩
      · intro i j
        apply R.w_is
        rw [w_turn]
        simp
  · rintro ρ s ⟨rfl, c, bs, x1, y1, z1, hc, e, rfl, q⟩
    cases bs with
    | nil => simpa using q
    | cons b bs => cases e
theorem added1 {n : Nat} {st : Cel} {Q : Kp PV} (a : List Int) (ha : a.length ≤ 1000) (q : Q.run (.tup (zs a)) st) : @R.w _ (P (n + 1) 4 [.tup (zs a)] st) Q := added_ok a [] ha (by simp) q
theorem added2 {n : Nat} {st : Cel} {Q : Kp PV} (a b : List Int) (ha : a.length ≤ 1000) (q : Q.run (.tup (zs (plus a b))) st) : @R.w _ (P (n + 1) 4 [.tup (zs a), .tup (zs b)] st) Q := added_ok a [b] ha (by simp) q
theorem added3 {n : Nat} {st : Cel} {Q : Kp PV} (a b c : List Int) (ha : a.length ≤ 1000) (q : Q.run (.tup (zs (plus (plus a b) c))) st) : @R.w _ (P (n + 1) 4 [.tup (zs a), .tup (zs b), .tup (zs c)] st) Q := added_ok a [b, c] ha (by simp) q
def NX.bd : NX → Nat
  | .lit i => i.natAbs
  | .item _ => 24
  | .op _ a b => a.bd * b.bd + a.bd + b.bd
def NX.fine : NX → Prop
  | .op _ a b => a.fine ∧ b.fine ∧ a.bd ≤ 1000000
  | .lit i => i.natAbs ≤ 1000
  | .item _ => True
theorem NX.val_le {xs : List Int} (hx : ∀ x ∈ xs, x.natAbs ≤ 24) : ∀ x : NX, (x.val xs).natAbs ≤ x.bd
  | .lit i => Nat.le_refl _
  | .item j => by
    show (xs.getD j 0).natAbs ≤ 24
    rw [List.getD_eq_getElem?_getD]
    cases e : xs[j]? with
    | none => simp
    | some v => exact hx v (List.mem_of_getElem? e)
  | .op o a b => by
    have h1 := NX.val_le hx a
    have h2 := NX.val_le hx b
    have h3 : (a.val xs * b.val xs).natAbs ≤ a.bd * b.bd := by rw [Int.natAbs_mul]; exact Nat.mul_le_mul h1 h2
    cases o with
    | add => show (a.val xs + b.val xs).natAbs ≤ a.bd * b.bd + a.bd + b.bd; have := Nat.zero_le (a.bd * b.bd); omega
    | sub => show (a.val xs - b.val xs).natAbs ≤ a.bd * b.bd + a.bd + b.bd; have := Nat.zero_le (a.bd * b.bd); omega
    | mul => show (a.val xs * b.val xs).natAbs ≤ a.bd * b.bd + a.bd + b.bd; omega
theorem NX.sm_of {xs : List Int} (hx : ∀ x ∈ xs, x.natAbs ≤ 24) : ∀ x : NX, x.fine → x.sm xs
  | .lit _, _ => trivial
  | .item _, _ => trivial
  | .op o a b, ⟨fa, fb, h⟩ => by
    have h1 := NX.val_le hx a
    exact ⟨NX.sm_of hx a fa, NX.sm_of hx b fb, by omega, by omega⟩
def CX.fine : CX → Prop
  | .rel _ a b => a.fine ∧ b.fine
  | .no c => c.fine
  | .bin _ a b => a.fine ∧ b.fine
theorem CX.sm_of {xs : List Int} (hx : ∀ x ∈ xs, x.natAbs ≤ 24) : ∀ x : CX, x.fine → x.sm xs
  | .rel _ a b, h => ⟨a.sm_of hx h.1, b.sm_of hx h.2⟩
  | .no c, h => CX.sm_of hx c h
  | .bin _ a b, h => ⟨CX.sm_of hx a h.1, CX.sm_of hx b h.2⟩
theorem GoodE.len {E : It} (g : GoodE E) : 1 ≤ E.length ∧ E.length ≤ 2 := by
  rcases g with ⟨s, l, hh, rfl, h1⟩ | ⟨s, l, hh, t, l', h', rfl, hne, h1, h2⟩ <;> simp
end K19
namespace K19
open PySem L2 Ev
/-! ### stores: items, rules, hands -/
theorem compL_wb {α : Type} {f : PV → Cel → R (Option PV)} {qs : List α} {v : α → PV} {st : Cel} {Q : Kp (List PV)} (g : α → Bool) (h : ∀ x ∈ qs, f (v x) st = .ok (some (.bl (g x))) st) (q : Q.run ((qs.map g).map .bl) st) : @R.w _ (compL f (qs.map v) st) Q :=
  compL_wq (fun x => .bl (g x)) h (by rw [List.map_map] at q; exact q)
abbrev Fo := List (Str × List (Str × List Int))
def actsV (as : List (Str × List Int)) : PV := .tup (as.map fun d => .tup [.str d.1, row d.2])
def handV (h : Str × List (Str × List Int)) : PV := .tup [.str h.1, actsV h.2]
def folkV (F : Fo) : PV := .tup (F.map handV)
def rulesV (E : It) (cs : List CX) : PV := .tup (cs.map fun c => c.pv E)
def shopV (E : It) (cs : List CX) (F : Fo) : PV := .tup [entV E, rulesV E cs, folkV F]
def ent (F : Fo) : List ((Str × Str) × List Int) := F.flatMap fun h => h.2.map fun d => ((h.1, d.1), d.2)
def keyV (k : Str × Str) : PV := .tup [.str k.1, .str k.2]
def keysF (F : Fo) : List (Str × Str) := (ent F).map (·.1)
abbrev slt (a b : Str) : Prop := a.cps.toList < b.cps.toList
/-- a short text -/
abbrev NmOk (s : Str) : Prop := PyData.strOk s = true ∧ s.length ≤ 8
theorem slt_nd {l : List Str} (h : l.Pairwise slt) : l.Nodup := by
  rw [List.nodup_iff_pairwise_ne]
  exact h.imp fun {a b} hab e => by subst e; exact List.lt_irrefl _ hab
structure ActsOk (k : Nat) (as : List (Str × List Int)) : Prop where
  len : as.length ≤ 3
  asc : (as.map (·.1)).Pairwise slt
  ok : ∀ d ∈ as, d.2.length = k ∧ NmOk d.1 ∧ ∀ x ∈ d.2, x.natAbs ≤ 2
structure GoodF (F : Fo) (k : Nat) : Prop where
  len : F.length ≤ 3
  asc : (F.map (·.1)).Pairwise slt
  nm : ∀ h ∈ F, NmOk h.1
  as : ∀ h ∈ F, ActsOk k h.2
theorem GoodF.hands {F : Fo} {k : Nat} (g : GoodF F k) : (F.map (·.1)).Nodup := slt_nd g.asc
theorem GoodF.ok {F : Fo} {k : Nat} (g : GoodF F k) : ∀ h ∈ F, PyData.strOk h.1 = true := fun h hh => (g.nm h hh).1
theorem GoodF.acts {F : Fo} {k : Nat} (g : GoodF F k) : ∀ h ∈ F, h.2.length ≤ 3 ∧ (h.2.map (·.1)).Nodup ∧ ∀ d ∈ h.2, d.2.length = k ∧ PyData.strOk d.1 = true := fun h hh =>
  ⟨(g.as h hh).len, slt_nd (g.as h hh).asc, fun d hd => ⟨((g.as h hh).ok d hd).1, ((g.as h hh).ok d hd).2.1.1⟩⟩
section
variable {n : Nat} {st : Cel} {Q : Kp PV} {E : It} {cs : List CX} {F : Fo} {k : Nat}
theorem mem_ent {e : (Str × Str) × List Int} (h : e ∈ ent F) : ∃ a ∈ F, ∃ d ∈ a.2, e = ((a.1, d.1), d.2) := by
  unfold ent at h
  rw [List.mem_flatMap] at h
  obtain ⟨a, ha, h⟩ := h
  rw [List.mem_map] at h
  obtain ⟨d, hd, rfl⟩ := h
  exact ⟨a, ha, d, hd, rfl⟩
theorem ent_len : ∀ {F : Fo}, (∀ h ∈ F, h.2.length ≤ 3) → (ent F).length ≤ 3 * F.length
  | [], _ => by simp [ent]
  | a :: F, h => by
    have h1 := h a List.mem_cons_self
    have h2 := ent_len (F := F) fun b hb => h b (List.mem_cons_of_mem _ hb)
    show ((a.2.map fun d => ((a.1, d.1), d.2)) ++ ent F).length ≤ _
    rw [List.length_append, List.length_map, List.length_cons]
    omega
theorem GoodF.entl (g : GoodF F k) : (ent F).length ≤ 9 := by
  have := ent_len fun h hh => (g.acts h hh).1
  have := g.len
  omega
theorem keys_nodup : ∀ {F : Fo}, (F.map (·.1)).Nodup → (∀ h ∈ F, (h.2.map (·.1)).Nodup) → (keysF F).Nodup
  | [], _, _ => List.nodup_nil
  | a :: F, h1, h2 => by
    show ((((a.2.map fun d => ((a.1, d.1), d.2)) ++ ent F)).map (·.1)).Nodup
    rw [List.map_append, List.nodup_append]
    rw [List.map_cons, List.nodup_cons] at h1
    refine ⟨?_, keys_nodup h1.2 fun b hb => h2 b (List.mem_cons_of_mem _ hb), ?_⟩
    · have := h2 a List.mem_cons_self
      rw [List.map_map]
      rw [List.nodup_iff_pairwise_ne, List.pairwise_map] at this ⊢
      exact this.imp fun {x y} hxy z => hxy (by simpa using z)
    · intro x hx y hy e
      subst e
      rw [List.mem_map] at hx hy
      obtain ⟨x1, hx1, rfl⟩ := hx
      obtain ⟨y1, hy1, e⟩ := hy
      rw [List.mem_map] at hx1
      obtain ⟨d, hd, rfl⟩ := hx1
      obtain ⟨b, hb, d2, hd2, rfl⟩ := mem_ent hy1
      simp only [Prod.mk.injEq] at e
      exact h1.1 (List.mem_map.mpr ⟨b, hb, e.1⟩)
theorem GoodF.nd (g : GoodF F k) : (keysF F).Nodup := keys_nodup g.hands fun h hh => (g.acts h hh).2.1
theorem GoodF.ks (g : GoodF F k) {x : Str × Str} (h : x ∈ keysF F) : PyData.strOk x.1 = true ∧ PyData.strOk x.2 = true := by
  unfold keysF at h
  rw [List.mem_map] at h
  obtain ⟨e, he, rfl⟩ := h
  obtain ⟨a, ha, d, hd, rfl⟩ := mem_ent he
  exact ⟨g.ok a ha, ((g.acts a ha).2.2 d hd).2⟩
theorem eqV_key {a b : Str × Str} (h : PyData.strOk a.1 = true ∧ PyData.strOk a.2 = true) (h' : PyData.strOk b.1 = true ∧ PyData.strOk b.2 = true) : eqV (keyV a) (keyV b) = some (decide (a = b)) := by
  have := eqV_strs (ss := [a.1, a.2]) (tt := [b.1, b.2]) (by simp [h]) (by simp [h'])
  unfold keyV
  rw [show (PV.tup [.str a.1, .str a.2]) = .tup ([a.1, a.2].map .str) from rfl, show (PV.tup [.str b.1, .str b.2]) = .tup ([b.1, b.2].map .str) from rfl, this]
  congr 1
  obtain ⟨a1, a2⟩ := a
  obtain ⟨b1, b2⟩ := b
  simp [Prod.mk.injEq]
@[simp] theorem shopV_0 : ixV st (shopV E cs F) (.int 0) = some (entV E) := rfl
@[simp] theorem shopV_1 : ixV st (shopV E cs F) (.int 1) = some (rulesV E cs) := rfl
@[simp] theorem shopV_2 : ixV st (shopV E cs F) (.int 2) = some (folkV F) := rfl
@[simp] theorem items_folk : itemsOf (folkV F) = some (F.map handV) := rfl
@[simp] theorem items_acts {as : List (Str × List Int)} : itemsOf (actsV as) = some (as.map fun d => .tup [.str d.1, row d.2]) := rfl
@[simp] theorem items_rules : itemsOf (rulesV E cs) = some (cs.map fun c => c.pv E) := rfl
@[simp] theorem items_ent : itemsOf (entV E) = some (E.map fun e => .tup [.str e.1, .int e.2.1, .int e.2.2]) := rfl
@[simp] theorem asg_hand {i j : Nat} {ρ : En} {h : Str × List (Str × List Int)} : assignT [i, j] (handV h) ρ = some (set1 (set1 ρ i (.str h.1)) j (actsV h.2)) := rfl
@[simp] theorem asg_key {i j : Nat} {ρ : En} {h : Str × Str} : assignT [i, j] (keyV h) ρ = some (set1 (set1 ρ i (.str h.1)) j (.str h.2)) := rfl
@[simp] theorem asg_shop {i j l : Nat} {ρ : En} (hi : i < 1000) (hj : j < 1000) (hl : l < 1000) : assignT [i, j, l] (shopV E cs F) ρ = some (set1 (set1 (set1 ρ i (entV E)) j (rulesV E cs)) l (folkV F)) := assignT_3t i j l _ _ _ ρ hi hj hl
@[simp] theorem ix_hand {h : Str × List (Str × List Int)} : ixV st (handV h) (.int 0) = some (.str h.1) := rfl
@[simp] theorem len_ent : lenV (entV E) = some (.int E.length) := by
  show some (PV.int (E.map _).length) = _
  rw [List.length_map]
def sumsV (F : Fo) : PV := .dtt ((ent F).map fun e => [.inr e.1.1, .inr e.1.2]) ((ent F).map fun e => row e.2)
theorem trips_ent : ∀ L : List ((Str × Str) × List Int), trips (L.map fun e => .tup [.str e.1.1, .str e.1.2, row e.2]) = some (L.map (fun e => [.inr e.1.1, .inr e.1.2]), L.map fun e => row e.2)
  | [] => rfl
  | e :: L => by rw [List.map_cons, trips, trips_ent L]; rfl
theorem dttV_ent (g : GoodF F k) : dttV ((ent F).map fun e => .tup [.str e.1.1, .str e.1.2, row e.2]) = some (sumsV F) := by
  unfold dttV
  rw [trips_ent]
  dsimp only
  rw [if_pos]
  · rfl
  · refine ⟨?_, szOk_of (by rw [List.length_map]; have := g.entl; omega)⟩
    have := g.nd
    unfold keysF at this
    rw [List.nodup_iff_pairwise_ne, List.pairwise_map] at this ⊢
    exact this.imp fun {x y} hxy z => hxy (by
      obtain ⟨⟨a, b⟩, c⟩ := x
      obtain ⟨⟨a', b'⟩, c'⟩ := y
      simpa using z)
theorem sums_by_key_ok (g : GoodF F k) (q : Q.run (sumsV F) st) : @R.w _ (P (n + 1) 0 [shopV E cs F] st) Q := by
  apply s_sums_by_key; unfold b_sums_by_key
  simp
  refine flatL_wq (fun h => h.2.map fun d => .tup [.str h.1, .str d.1, row d.2]) ?_ ?_
  · intro h hh
    apply R.w_is
    rw [w_turnD2]
    simp
    refine compL_wq (fun d => .tup [.str h.1, .str d.1, row d.2]) ?_ ?_
    · intro d hd
      apply R.w_is
      rw [w_turnD]
      simp
    · simp
  · rw [Kp_run]
    have e : (F.flatMap fun h => h.2.map fun d => PV.tup [.str h.1, .str d.1, row d.2]) = (ent F).map fun e => .tup [.str e.1.1, .str e.1.2, row e.2] := by
      unfold ent
      rw [List.map_flatMap]
      congr
      funext h
      rw [List.map_map]
      rfl
    rw [e, dttV_ent g]
    simp
    exact q
theorem all_keys_ok (g : GoodF F k) (q : Q.run (.tup ((keysF F).map keyV)) st) : @R.w _ (P (n + 2) 1 [shopV E cs F] st) Q := by
  apply s_all_keys; unfold b_all_keys
  simp
  refine sums_by_key_ok g ?_
  unfold sumsV
  simp
  unfold keysF at q
  rw [List.map_map] at q
  exact q
theorem require_keys_ok {w : Str × Str} (g : GoodF F k) (hw : w ∈ keysF F) (q : Q.run .non st) : @R.w _ (P (n + 3) 2 [shopV E cs F, keyV w] st) Q := by
  refine s_require_keys (rest := [keyV w]) szOk_1 ?_
  unfold b_require_keys
  simp
  refine all_keys_ok g ?_
  simp
  rw [w_forL_cons, bodyL_1]
  simp
  refine compL_wb (qs := keysF F) (v := keyV) (fun a => decide (a = w)) ?_ ?_
  · intro a ha
    apply R.w_is
    rw [w_turn]
    simp [eqV_key (g.ks ha) (g.ks hw)]
  · have hl : (keysF F).length ≤ 9 := by unfold keysF; rw [List.length_map]; exact g.entl
    rw [Kp_run, List.length_map, List.length_map, szOk_of (by omega)]
    have e : (((keysF F).map fun a => decide (a = w)).any id) = true := by
      rw [List.any_eq_true]
      exact ⟨true, List.mem_map.mpr ⟨w, hw, by simp⟩, rfl⟩
    simp only [if_true, R.w_ok, anyV_bl, e]
    simp
    rw [w_forL_nil]
    simpa using q
structure RkI (sh : PV) (ks : List (Str × Str)) (al : PV) (F : Fo) (st : Cel) (r : List PV) (ρ : En) (s : Cel) : Prop where
  ex : s = st ∧ ∃ (t : List (Str × Str)) (x y : Slot), r = t.map keyV ∧ (∀ w ∈ t, w ∈ keysF F) ∧ ρ = [.val sh, .val (.tup (ks.map keyV)), .val al, x, y]
theorem require_keys_l {ks : List (Str × Str)} (g : GoodF F k) (hw : ∀ w ∈ ks, w ∈ keysF F) (hl : ks.length ≤ 1000) (q : Q.run .non st) : @R.w _ (P (n + 3) 2 (shopV E cs F :: ks.map keyV) st) Q := by
  refine s_require_keys (rest := ks.map keyV) (szOk_of (by rw [List.length_map]; omega)) ?_
  unfold b_require_keys
  simp
  refine all_keys_ok g ?_
  simp
  refine forL_w (RkI (shopV E cs F) ks (.tup ((keysF F).map keyV)) F st) ⟨rfl, ks, _, _, rfl, hw, rfl⟩ ?_ ?_
  · rintro x r ρ s ⟨rfl, t, a, b, e, ht, rfl⟩
    cases t with
    | nil => cases e
    | cons w t =>
      cases e
      have hw := ht w List.mem_cons_self
      rw [bodyL_1]
      simp
      refine compL_wb (qs := keysF F) (v := keyV) (fun a => decide (a = w)) ?_ ?_
      · intro a ha
        apply R.w_is
        rw [w_turn]
        simp [eqV_key (g.ks ha) (g.ks hw)]
      · have hl : (keysF F).length ≤ 9 := by unfold keysF; rw [List.length_map]; exact g.entl
        rw [Kp_run, List.length_map, List.length_map, szOk_of (by omega)]
        have e : (((keysF F).map fun a => decide (a = w)).any id) = true := by
          rw [List.any_eq_true]
          exact ⟨true, List.mem_map.mpr ⟨w, hw, by simp⟩, rfl⟩
        simp only [if_true, R.w_ok, anyV_bl, e]
        simp
        exact ⟨rfl, t, _, _, rfl, fun w hw => ht w (List.mem_cons_of_mem _ hw), rfl⟩
  · rintro ρ s ⟨rfl, t, a, b, e, ht, rfl⟩
    simpa using q
def lk (F : Fo) (w : Str × Str) : List Int := ((ent F).lookup w).getD []
theorem valT_lk {w : Str × Str} : ∀ {L : List ((Str × Str) × List Int)}, w ∈ L.map (·.1) → valT (L.map fun e => [.inr e.1.1, .inr e.1.2]) (L.map fun e => row e.2) [.inr w.1, .inr w.2] = some (row ((L.lookup w).getD []))
  | [], h => by simp at h
  | ((a, b), c) :: L, h => by
    obtain ⟨w1, w2⟩ := w
    rw [List.map_cons, List.map_cons, valT, List.lookup_cons]
    by_cases e : (w1, w2) = (a, b)
    · cases e
      rw [if_pos rfl]
      simp
    · have e2 : ¬ ([Sum.inr a, Sum.inr b] : List Key) = [.inr w1, .inr w2] := fun z => e (by simp at z; rw [z.1, z.2])
      have e3 : ((w1, w2) == (a, b)) = false := by simpa using e
      rw [if_neg e2, e3]
      refine valT_lk ?_
      rw [List.map_cons, List.mem_cons] at h
      exact h.resolve_left e
theorem sum_of_ok {w : Str × Str} (g : GoodF F k) (hw : w ∈ keysF F) (q : Q.run (row (lk F w)) st) : @R.w _ (P (n + 4) 3 [shopV E cs F, keyV w] st) Q := by
  apply s_sum_of; unfold b_sum_of
  simp
  refine require_keys_ok g hw ?_
  simp
  refine sums_by_key_ok g ?_
  have e : dgetTV (sumsV F) (keyV w) = some (row (lk F w)) := by
    show valT _ _ [.inr w.1, .inr w.2] = _
    exact valT_lk hw
  simp [e]
  exact q
theorem led_ok {xs : List Int} {ks : List (Str × Str)} (g : GoodF F k) (hx : xs.length ≤ 1000) (hk : ∀ w ∈ ks, w ∈ keysF F) (hl : ks.length ≤ 100) (q : Q.run (row ((ks.map (lk F)).foldl plus xs)) st) : @R.w _ (P (n + 5) 13 (shopV E cs F :: row xs :: ks.map keyV) st) Q := by
  refine s_led (szOk_of (by rw [List.length_map]; omega)) ?_
  unfold b_led
  simp
  refine compL_wq (qs := ks) (v := keyV) (fun w => row (lk F w)) ?_ ?_
  · intro w hw
    apply R.w_is
    rw [w_turn]
    simp
    refine sum_of_ok g (hk w hw) ?_
    simp
  · rw [Kp_run, List.length_map, szOk_of (by omega)]
    simp
    have := added_ok (n := n + 3) (st := st) (Q := Q) xs (ks.map (lk F)) hx (by rw [List.length_map]; omega) q
    rw [List.map_map] at this
    exact this
end
end K19
namespace K19
open PySem L2 Ev
/-! ### good states -/
def rgs (E : It) : List (Int × Int) := E.map fun e => (e.2.1, e.2.2 + 1)
def good (E : It) (cs : List CX) (xs : List Int) : Bool := fits (rgs E) xs && cs.all fun c => c.val xs
def goods (E : It) (cs : List CX) : List (List Int) := (stx [[]] (rgs E)).filter (good E cs)
/-- rules as they are drawn -/
def RuOk (E : It) (cs : List CX) : Prop := cs.length ≤ 10 ∧ ∀ c ∈ cs, c.ok E.length ∧ c.fine ∧ c.dep ≤ 10
def BdE (E : It) : Prop := ∀ e ∈ E, -20 ≤ e.2.1 ∧ e.2.2 ≤ 20
section
variable {n : Nat} {st : Cel} {Q : Kp PV} {E : It} {cs : List CX} {F : Fo} {k : Nat} {xs : List Int}
theorem are_integers_ok (hl : xs.length ≤ 1000) (q : Q.run (.bl true) st) : @R.w _ (P (n + 2) 6 [row xs] st) Q := by
  unfold row zs
  apply s_are_integers; unfold b_are_integers
  simp
  refine compL_wb (qs := xs) (v := PV.int) (fun _ => true) ?_ ?_
  · intro x _
    apply R.w_is
    rw [w_turn]
    simp
    apply is_integer_int
    simp
  · rw [Kp_run, List.length_map, List.length_map, szOk_of (by omega)]
    simp only [if_true, R.w_ok, allV_bl, show ((xs.map fun _ => true).all id) = true by simp]
    simpa using q
theorem is_sum_ok {m : Nat} (hl : xs.length ≤ 1000) (q : Q.run (.bl (decide (xs.length = m))) st) : @R.w _ (P (n + 3) 7 [row xs, .int (m : Nat)] st) Q := by
  apply s_is_sum; unfold b_is_sum
  simp
  refine are_integers_ok hl ?_
  unfold row
  simp
  have e : ((xs.length : Int) == (m : Int)) = decide (xs.length = m) := by
    by_cases h : xs.length = m
    · subst h; simp
    · have : ¬ (xs.length : Int) = (m : Int) := by omega
      simp [h, this]
  rw [e]
  exact q
theorem fits_zip : ∀ (E : It) (xs : List Int), xs.length = E.length → ((E.zip xs).map fun p => decide (p.1.2.1 ≤ p.2) && decide (p.2 ≤ p.1.2.2)).all id = fits (rgs E) xs
  | [], [], _ => rfl
  | e :: E, x :: xs, h => by
    have ih := fits_zip E xs (by simpa using h)
    show (decide (e.2.1 ≤ x) && decide (x ≤ e.2.2) && ((E.zip xs).map _).all id) = (decide (e.2.1 ≤ x) && decide (x < e.2.2 + 1) && fits (rgs E) xs)
    rw [ih]
    congr 2
    apply decide_eq_decide.mpr
    omega
  | [], _ :: _, h => by cases h
  | _ :: _, [], h => by cases h
theorem fits_bd : ∀ {E : It} {xs : List Int}, BdE E → fits (rgs E) xs = true → ∀ x ∈ xs, x.natAbs ≤ 24
  | [], [], _, _, x, hx => by cases hx
  | e :: E, y :: ys, hb, h, x, hx => by
    have h' : (decide (e.2.1 ≤ y) && decide (y < e.2.2 + 1) && fits (rgs E) ys) = true := h
    rw [Bool.and_eq_true, Bool.and_eq_true, decide_eq_true_eq, decide_eq_true_eq] at h'
    rcases List.mem_cons.mp hx with rfl | hx
    · have := hb e List.mem_cons_self
      omega
    · exact fits_bd (fun e he => hb e (List.mem_cons_of_mem _ he)) h'.2 x hx
  | [], _ :: _, _, h, _, _ => by cases h
  | _ :: _, [], _, h, _, _ => by cases h
theorem zips_ent (h : xs.length = E.length) : zipsV (entV E) (row xs) = some (.lst ((E.zip xs).map fun p => .tup [.tup [.str p.1.1, .int p.1.2.1, .int p.1.2.2], .int p.2])) := by
  show (if (E.map _).length = (zs xs).length then _ else _) = _
  rw [if_pos (by rw [List.length_map, zs_length, h])]
  unfold zs
  rw [List.zip_map, List.map_map]
  rfl
theorem is_good_ok (g : GoodE E) (hb : BdE E) (hc : RuOk E cs) (hx : xs.length = E.length) (q : Q.run (.bl (good E cs xs)) st) : @R.w _ (P (n + 20) 11 [shopV E cs F, row xs] st) Q := by
  obtain ⟨l1, l2⟩ := g.len
  apply s_is_good; unfold b_is_good
  simp
  refine is_sum_ok (by omega) ?_
  simp [hx, zips_ent hx]
  refine compL_wb (qs := E.zip xs) (fun p => decide (p.1.2.1 ≤ p.2) && decide (p.2 ≤ p.1.2.2)) ?_ ?_
  · intro p _
    apply R.w_is
    rw [w_turn]
    simp
    split
    · simp_all
    · simp_all
      intro _
      omega
  · have hl : (E.zip xs).length ≤ 2 := by rw [List.length_zip]; omega
    rw [Kp_run, List.length_map, List.length_map, szOk_of (by omega)]
    simp only [if_true, R.w_ok, allV_bl, fits_zip E xs hx]
    unfold good at q
    cases hf : fits (rgs E) xs with
    | false =>
      rw [hf] at q
      simpa using q
    | true =>
      rw [hf, Bool.true_and] at q
      simp
      refine compL_wb (qs := cs) (v := fun c => c.pv E) (fun c => c.val xs) ?_ ?_
      · intro c hcm
        apply R.w_is
        rw [w_turn]
        simp
        obtain ⟨c1, c2, c3⟩ := hc.2 c hcm
        refine holds_ok g hx st c (n + 19) c1 (c.sm_of (fits_bd hb hf) c2) (by omega) ?_
        simp
      · rw [Kp_run, List.length_map, List.length_map, szOk_of (by have := hc.1; omega)]
        simp only [if_true, R.w_ok, allV_bl]
        rw [List.all_map] at *
        simpa using q
theorem stp_len (acc : List (List Int)) (r : Int × Int) : (stp acc r).length = acc.length * (r.2 - r.1).toNat := by
  unfold stp
  induction acc with
  | nil => simp
  | cons s acc ih =>
    rw [List.flatMap_cons, List.length_append, ih, List.length_map, rgI_len, List.length_cons, Nat.succ_mul, Nat.add_comm]
theorem rows_stp (acc : List (List Int)) (lo hi : Int) : (acc.flatMap fun s => (rgI lo hi).map fun x => row (s ++ [x])) = rows (stp acc (lo, hi)) := by
  unfold rows stp
  rw [List.map_flatMap]
  congr
  funext s
  rw [List.map_map]
  rfl
theorem row_snoc (s : List Int) (x : Int) : PV.tup (zs s ++ [.int x]) = row (s ++ [x]) := by
  unfold row
  rw [zs_snoc]
/-- each range is small -/
def Wd20 (E : It) : Prop := ∀ e ∈ E, -20 ≤ e.2.1 ∧ e.2.1 ≤ e.2.2 ∧ e.2.2 ≤ 20 ∧ e.2.2 - e.2.1 ≤ 12
theorem Wd20.bd (h : Wd20 E) : BdE E := fun e he => ⟨(h e he).1, (h e he).2.2.1⟩
structure GsI (sh : PV) (W : List (List Int)) (st : Cel) (r : List PV) (ρ : En) (s : Cel) : Prop where
  ex : s = st ∧ ∃ (acc : List (List Int)) (Z : It) (x y z : Slot), r = Z.map (fun e => PV.tup [.str e.1, .int e.2.1, .int e.2.2]) ∧ ρ = [.val sh, .val (.lst (rows acc)), .emp, x, y, z, .emp] ∧ Wd20 Z ∧ (∀ s ∈ acc, s.length + Z.length ≤ 2) ∧ acc.length * 20 ^ Z.length ≤ 400 ∧ stx acc (rgs Z) = W
theorem good_states_ok (g : GoodE E) (hw : Wd20 E) (hc : RuOk E cs) (q : Q.run (.lst (rows (goods E cs))) st) : @R.w _ (P (n + 21) 12 [shopV E cs F] st) Q := by
  obtain ⟨l1, l2⟩ := g.len
  have hb : BdE E := hw.bd
  apply s_good_states; unfold b_good_states
  simp
  refine forL_w (GsI (shopV E cs F) (stx [[]] (rgs E)) st) ⟨rfl, [[]], E, _, _, _, rfl, rfl, hw, by simpa using l2, ?_, rfl⟩ ?_ ?_
  · rcases (by omega : E.length = 1 ∨ E.length = 2) with h | h <;> rw [h] <;> decide
  · rintro x r ρ s ⟨rfl, acc, Z, a, b, c, e, rfl, hR, hl, hacc, hW⟩
    cases Z with
    | nil => cases e
    | cons e0 Z =>
      cases e
      obtain ⟨e1, e2, e3, e4⟩ := hR e0 List.mem_cons_self
      rw [bodyL_eq (h := assignT_3t 3 4 5 _ _ _ _ (by omega) (by omega) (by omega))]
      simp (disch := omega) [rng2V_ok]
      refine flatL_wq (qs := acc) (v := row) (fun s => (rgI e0.2.1 (e0.2.2 + 1)).map fun x => row (s ++ [x])) ?_ ?_
      · intro s hs
        apply R.w_is
        rw [w_turn2]
        simp (disch := omega) [rng2V_ok]
        refine compL_wq (qs := rgI e0.2.1 (e0.2.2 + 1)) (v := PV.int) (fun x => row (s ++ [x])) ?_ ?_
        · intro x _
          apply R.w_is
          rw [w_turn]
          unfold row
          simp
          exact ⟨szOk_of (by have := hl s hs; omega), zs_snoc s x⟩
        · simp
      · have hln : (stp acc (e0.2.1, e0.2.2 + 1)).length ≤ acc.length * 20 := by
          rw [stp_len]
          exact Nat.mul_le_mul_left _ (by show (e0.2.2 + 1 - e0.2.1).toNat ≤ 20; omega)
        have h20 : acc.length * 20 * 20 ^ Z.length ≤ 400 := by
          rw [List.length_cons, Nat.pow_succ, Nat.mul_comm (20 ^ _) 20, ← Nat.mul_assoc] at hacc
          exact hacc
        have hp : 1 ≤ 20 ^ Z.length := Nat.pow_pos (by decide)
        have h400 : acc.length * 20 ≤ 400 := Nat.le_trans (Nat.le_mul_of_pos_right _ hp) h20
        rw [Kp_run, rows_stp]
        have hz : szOk (rows (stp acc (e0.2.1, e0.2.2 + 1))).length = true := szOk_of (by unfold rows; rw [List.length_map]; omega)
        rw [hz]
        simp
        refine ⟨rfl, stp acc (e0.2.1, e0.2.2 + 1), Z, _, _, _, rfl, rfl, fun e he => hR e (List.mem_cons_of_mem _ he), fun s hs => ?_, ?_, hW⟩
        · unfold stp at hs
          rw [List.mem_flatMap] at hs
          obtain ⟨u, hu, hs⟩ := hs
          rw [List.mem_map] at hs
          obtain ⟨x, _, rfl⟩ := hs
          have := hl u hu
          simp at this ⊢
          omega
        · exact Nat.le_trans (Nat.mul_le_mul_right _ hln) h20
  · rintro ρ s ⟨rfl, acc, Z, a, b, c, e, rfl, hR, hl, hacc, hW⟩
    cases Z with
    | cons e0 Z => cases e
    | nil =>
      have hW' : acc = stx [[]] (rgs E) := hW
      simp
      refine compL_wf (qs := acc) (v := row) (good E cs) row ?_ ?_
      · intro xs hxs
        apply R.w_is
        rw [w_turn]
        simp
        rw [hW'] at hxs
        have hf := mem_st.mp hxs
        have hx : xs.length = E.length := by rw [fits_len hf]; unfold rgs; rw [List.length_map]
        refine is_good_ok g hb hc hx ?_
        simp
      · have hln : acc.length ≤ 400 := by simpa using hacc
        rw [Kp_run, List.length_map, szOk_of (Nat.le_trans (List.length_filter_le _ _) (by omega))]
        simp
        rw [hW']
        exact q
theorem lookup_mem {w : Str × Str} : ∀ {L : List ((Str × Str) × List Int)}, w ∈ L.map (·.1) → ∃ l, L.lookup w = some l ∧ (w, l) ∈ L
  | [], h => by simp at h
  | (a, c) :: L, h => by
    rw [List.lookup_cons]
    by_cases e : w = a
    · subst e
      exact ⟨c, by simp, List.mem_cons_self⟩
    · have e3 : (w == a) = false := by simpa using e
      rw [List.map_cons, List.mem_cons] at h
      obtain ⟨l, h1, h2⟩ := lookup_mem (h.resolve_left e)
      exact ⟨l, by rw [e3]; exact h1, List.mem_cons_of_mem _ h2⟩
theorem lk_len {w : Str × Str} (g : GoodF F k) (hw : w ∈ keysF F) : (lk F w).length = k := by
  obtain ⟨l, h1, h2⟩ := lookup_mem hw
  unfold lk
  rw [h1]
  obtain ⟨a, ha, d, hd, e⟩ := mem_ent h2
  cases e
  exact ((g.acts a ha).2.2 d hd).1
theorem plus_len {a b : List Int} (h : a.length = b.length) : (plus a b).length = a.length := by
  unfold plus
  rw [List.length_zipWith]
  omega
theorem key_mem {w a : Str} {as : List (Str × List Int)} (hw : (w, as) ∈ F) (ha : a ∈ as.map (·.1)) : (w, a) ∈ keysF F := by
  rw [List.mem_map] at ha
  obtain ⟨d, hd, rfl⟩ := ha
  unfold keysF ent
  rw [List.mem_map]
  exact ⟨((w, d.1), d.2), List.mem_flatMap.mpr ⟨_, hw, List.mem_map.mpr ⟨d, hd, rfl⟩⟩, rfl⟩
theorem keys_of : ∀ {F : Fo} {w : Str} {as : List (Str × List Int)}, (F.map (·.1)).Nodup → (w, as) ∈ F → ((keysF F).filter fun a => decide (a.1 = w)).map (·.2) = as.map (·.1)
  | [], _, _, _, h => by cases h
  | (v, bs) :: F, w, as, nd, h => by
    rw [List.map_cons, List.nodup_cons] at nd
    have ek : keysF ((v, bs) :: F) = (bs.map fun d => (v, d.1)) ++ keysF F := by
      show (((bs.map fun d => ((v, d.1), d.2)) ++ ent F)).map (·.1) = _
      rw [List.map_append, List.map_map]
      rfl
    rw [ek, List.filter_append, List.map_append]
    rcases List.mem_cons.mp h with h | h
    · simp only [Prod.mk.injEq] at h
      obtain ⟨h1, h2⟩ := h
      subst h1 h2
      have e1 : (as.map fun d => (w, d.1)).filter (fun a => decide (a.1 = w)) = as.map fun d => (w, d.1) := by
        rw [List.filter_eq_self]
        intro a ha
        rw [List.mem_map] at ha
        obtain ⟨d, _, rfl⟩ := ha
        simp
      have e2 : (keysF F).filter (fun a => decide (a.1 = w)) = [] := by
        rw [List.filter_eq_nil_iff]
        intro a ha
        unfold keysF at ha
        rw [List.mem_map] at ha
        obtain ⟨e, he, rfl⟩ := ha
        obtain ⟨b, hb, d, hd, rfl⟩ := mem_ent he
        simp only [decide_eq_true_eq]
        intro z
        exact nd.1 (List.mem_map.mpr ⟨b, hb, z⟩)
      rw [e1, e2, List.map_map]
      simp
    · have hv : v ≠ w := fun z => nd.1 (by rw [z]; exact List.mem_map.mpr ⟨_, h, rfl⟩)
      have e1 : (bs.map fun d => (v, d.1)).filter (fun a => decide (a.1 = w)) = [] := by
        rw [List.filter_eq_nil_iff]
        intro a ha
        rw [List.mem_map] at ha
        obtain ⟨d, _, rfl⟩ := ha
        simpa using hv
      rw [e1, keys_of nd.2 h]
      rfl
end
end K19
namespace K19
open PySem L2 Ev
/-! ### the feed, what is drawn -/
/-- the feed, with at most so many draws behind it -/
def Rd (ns : List Int) (T : Nat) (st : Cel) : Prop := ∃ a b c : Int, st = [.lst [.lst (zs ns), .int a, .int b, .int c]] ∧ 0 ≤ a ∧ 0 ≤ b ∧ 0 ≤ c ∧ c ≤ T
theorem Rd.mono {ns : List Int} {T T' : Nat} {st : Cel} (h : Rd ns T st) (hT : T ≤ T') : Rd ns T' st := by
  obtain ⟨a, b, c, e, h1, h2, h3, h4⟩ := h
  exact ⟨a, b, c, e, h1, h2, h3, by omega⟩
theorem mulb {a b A B : Int} (h1 : 0 ≤ a) (h2 : a ≤ A) (h3 : 0 ≤ b) (h4 : b ≤ B) : 0 ≤ a * b ∧ a * b ≤ A * B := ⟨Int.mul_nonneg h1 h3, Int.mul_le_mul h2 h4 h3 (Int.le_trans h1 h2)⟩
theorem draw {ns : List Int} {T n : Nat} {st : Cel} {m : Int} {Q : Kp PV} (h : Rd ns T st) (hT : T < 1000000) (h1 : 1 ≤ m) (h2 : m < 1000000000) (hn : 1 ≤ n) (hQ : ∀ d st', 0 ≤ d → d < m → Rd ns (T + 1) st' → Q.run (.int d) st') : @R.w _ (P n 17 [.cell 0, .int m] st) Q := by
  obtain ⟨n, rfl⟩ : ∃ k, n = k + 1 := ⟨n - 1, by omega⟩
  obtain ⟨a, b, c, rfl, ha, hb, hc, hc2⟩ := h
  have m1 := mulb (a := 167 * (c + 1)) (b := c + 1 + 9) (A := 167000167) (B := 1000020) (by omega) (by omega) (by omega) (by omega)
  have m2 : ∀ x : Int, 0 ≤ x % 2147483249 * (2 * (c + 1) + 17) ∧ x % 2147483249 * (2 * (c + 1) + 17) ≤ 2147483249 * 2000100 := fun x => mulb (Int.emod_nonneg _ (by omega)) (by have := Int.emod_lt_of_pos x (b := 2147483249) (by omega); omega) (by omega) (by omega)
  have m3 : ∀ x : Int, 0 ≤ x % 1000007011 ∧ x % 1000007011 < 1000007011 := fun x => ⟨Int.emod_nonneg _ (by omega), Int.emod_lt_of_pos _ (by omega)⟩
  have p5 : ∀ x : Int, binV .pow (.int (x % 1000007011 + 167 * (c + 1) * (c + 1 + 9) + 41)) (.int 5) = some (.int ((x % 1000007011 + 167 * (c + 1) * (c + 1 + 9) + 41) ^ 5)) := fun x => bin_pow5 (by have := m3 x; omega) (by have := m3 x; omega)
  have p5b : binV .pow (.int (53 + 167 * (c + 1) * (c + 1 + 9) + 41)) (.int 5) = some (.int ((53 + 167 * (c + 1) * (c + 1 + 9) + 41) ^ 5)) := bin_pow5 (by omega) (by omega)
  have p3 : ∀ x : Int, binV .pow (.int (x % 2147483249 * (2 * (c + 1) + 17) + 50159 * (c + 1))) (.int 3) = some (.int ((x % 2147483249 * (2 * (c + 1) + 17) + 50159 * (c + 1)) ^ 3)) := fun x => bin_pow3 (by have := m2 x; omega) (by have := m2 x; omega)
  have t2 : ∀ x : Int, binV .mul (.int (x % 2147483249)) (.int (2 * (c + 1) + 17)) = some (.int (x % 2147483249 * (2 * (c + 1) + 17))) := fun x => bin_mulc (by have := Int.emod_nonneg x (b := 2147483249) (by omega); omega) (by have := Int.emod_lt_of_pos x (b := 2147483249) (by omega); omega)
  apply s__law_draw
  unfold b__law_draw
  simp (disch := omega) [bin_mod, bin_fdiv]
  split
  · exact hQ _ _ (Int.emod_nonneg _ (by omega)) (Int.emod_lt_of_pos _ (by omega)) ⟨_, _, _, rfl, ha, Int.ediv_nonneg hb (by omega), by omega, by omega⟩
  split
  · rename_i hn
    subst hn
    simp (disch := omega) [bin_mod, bin_fdiv, bin_mulc, p5b, t2, p3]
    exact hQ _ _ (Int.emod_nonneg _ (by omega)) (Int.emod_lt_of_pos _ (by omega)) ⟨_, _, _, rfl, by omega, hb, by omega, by omega⟩
  · rename_i hn
    have hl : 0 < ns.length := List.length_pos_iff.mpr hn
    obtain ⟨x, hx, hm⟩ := atP_mem (xs := zs ns) (i := a % (ns.length : Int)) (Int.emod_nonneg _ (by omega)) (by rw [zs_length]; exact Int.emod_lt_of_pos _ (by omega))
    obtain ⟨k, hk, rfl⟩ := List.mem_map.mp hm
    simp (disch := omega) [bin_mod, bin_fdiv, bin_mulc, p5, t2, p3, hx]
    split
    · rename_i hk
      have : 0 ≤ k / m := Int.ediv_nonneg (by omega) (by omega)
      split
      · exact hQ _ _ (Int.emod_nonneg _ (by omega)) (Int.emod_lt_of_pos _ (by omega)) ⟨_, _, _, rfl, by omega, this, by omega, by omega⟩
      · exact hQ _ _ (Int.emod_nonneg _ (by omega)) (Int.emod_lt_of_pos _ (by omega)) ⟨_, _, _, rfl, by omega, hb, by omega, by omega⟩
    · exact hQ _ _ (Int.emod_nonneg _ (by omega)) (Int.emod_lt_of_pos _ (by omega)) ⟨_, _, _, rfl, by omega, hb, by omega, by omega⟩
theorem pick {xs : List PV} {P : PV → Prop} {i : Int} (h : ∀ x ∈ xs, P x) (h0 : 0 ≤ i) (h1 : i < xs.length) : ∃ x, atP xs i = some x ∧ P x := by
  obtain ⟨x, e, m⟩ := atP_mem h0 h1
  exact ⟨x, e, h x m⟩
theorem feed {ns : List Int} {n : Nat} {Q : Kp PV} (hl : ns.length ≤ 63) (hn : 1 ≤ n) (q : Q.run (.lst [.lst (zs ns), .int 0, .int 0, .int 0]) []) : @R.w _ (P n 16 [.rol (ns.map .int)] []) Q := by
  obtain ⟨n, rfl⟩ : ∃ k, n = k + 1 := ⟨n - 1, by omega⟩
  have e : cutP (ns.map PV.int) none (some 63) = zs ns := by
    unfold cutP
    rw [show (63 : Int) = ((63 : Nat) : Int) from rfl, HT.sIx_nat, HT.sIx_none, List.drop_zero, List.take_of_length_le (by rw [List.length_map]; omega)]
    rfl
  apply s__law_feed; unfold b__law_feed
  simp [e]
  exact q
theorem choice {ns : List Int} {T n : Nat} {st : Cel} {xs : List PV} {L : PV} {Q : Kp PV} (P' : PV → Prop) (hL : L = .lst xs ∨ L = .tup xs) (hp : ∀ x ∈ xs, P' x) (h : Rd ns T st) (hT : T < 1000000) (h1 : 1 ≤ xs.length) (h2 : xs.length ≤ 1000) (hn : 2 ≤ n) (q : ∀ x st', P' x → Rd ns (T + 1) st' → Q.run x st') : @R.w _ (P n 20 [.cell 0, L] st) Q := by
  obtain ⟨n, rfl⟩ : ∃ k, n = k + 1 := ⟨n - 1, by omega⟩
  apply s__law_choice; unfold b__law_choice
  rcases hL with rfl | rfl
  · simp
    refine draw h hT (by omega) (by omega) (by omega) fun d st1 d0 d1 r1 => ?_
    obtain ⟨x, hx, px⟩ := pick hp d0 d1
    simp [hx]
    exact q x st1 px r1
  · simp
    refine draw h hT (by omega) (by omega) (by omega) fun d st1 d0 d1 r1 => ?_
    obtain ⟨x, hx, px⟩ := pick hp d0 d1
    simp [hx]
    exact q x st1 px r1
end K19
namespace K19
open PySem L2 Ev
/-! ### the law's own values and states -/
@[simp] theorem ne_0_1 : (("item" : Str) = "not") = False := by simp only [eq_iff_iff, iff_false]; decide +kernel
@[simp] theorem ne_0_2 : (("item" : Str) = "and") = False := by simp only [eq_iff_iff, iff_false]; decide +kernel
@[simp] theorem ne_0_3 : (("item" : Str) = "or") = False := by simp only [eq_iff_iff, iff_false]; decide +kernel
@[simp] theorem ne_0_4 : (("item" : Str) = "=") = False := by simp only [eq_iff_iff, iff_false]; decide +kernel
@[simp] theorem ne_0_5 : (("item" : Str) = "<") = False := by simp only [eq_iff_iff, iff_false]; decide +kernel
@[simp] theorem ne_0_6 : (("item" : Str) = "+") = False := by simp only [eq_iff_iff, iff_false]; decide +kernel
@[simp] theorem ne_0_7 : (("item" : Str) = "-") = False := by simp only [eq_iff_iff, iff_false]; decide +kernel
@[simp] theorem ne_0_8 : (("item" : Str) = "*") = False := by simp only [eq_iff_iff, iff_false]; decide +kernel
@[simp] theorem ne_1_0 : (("not" : Str) = "item") = False := by simp only [eq_iff_iff, iff_false]; decide +kernel
@[simp] theorem ne_1_2 : (("not" : Str) = "and") = False := by simp only [eq_iff_iff, iff_false]; decide +kernel
@[simp] theorem ne_1_3 : (("not" : Str) = "or") = False := by simp only [eq_iff_iff, iff_false]; decide +kernel
@[simp] theorem ne_1_4 : (("not" : Str) = "=") = False := by simp only [eq_iff_iff, iff_false]; decide +kernel
@[simp] theorem ne_1_5 : (("not" : Str) = "<") = False := by simp only [eq_iff_iff, iff_false]; decide +kernel
@[simp] theorem ne_1_6 : (("not" : Str) = "+") = False := by simp only [eq_iff_iff, iff_false]; decide +kernel
@[simp] theorem ne_1_7 : (("not" : Str) = "-") = False := by simp only [eq_iff_iff, iff_false]; decide +kernel
@[simp] theorem ne_1_8 : (("not" : Str) = "*") = False := by simp only [eq_iff_iff, iff_false]; decide +kernel
@[simp] theorem ne_2_0 : (("and" : Str) = "item") = False := by simp only [eq_iff_iff, iff_false]; decide +kernel
@[simp] theorem ne_2_1 : (("and" : Str) = "not") = False := by simp only [eq_iff_iff, iff_false]; decide +kernel
@[simp] theorem ne_2_3 : (("and" : Str) = "or") = False := by simp only [eq_iff_iff, iff_false]; decide +kernel
@[simp] theorem ne_2_4 : (("and" : Str) = "=") = False := by simp only [eq_iff_iff, iff_false]; decide +kernel
@[simp] theorem ne_2_5 : (("and" : Str) = "<") = False := by simp only [eq_iff_iff, iff_false]; decide +kernel
@[simp] theorem ne_2_6 : (("and" : Str) = "+") = False := by simp only [eq_iff_iff, iff_false]; decide +kernel
@[simp] theorem ne_2_7 : (("and" : Str) = "-") = False := by simp only [eq_iff_iff, iff_false]; decide +kernel
@[simp] theorem ne_2_8 : (("and" : Str) = "*") = False := by simp only [eq_iff_iff, iff_false]; decide +kernel
@[simp] theorem ne_3_0 : (("or" : Str) = "item") = False := by simp only [eq_iff_iff, iff_false]; decide +kernel
@[simp] theorem ne_3_1 : (("or" : Str) = "not") = False := by simp only [eq_iff_iff, iff_false]; decide +kernel
@[simp] theorem ne_3_2 : (("or" : Str) = "and") = False := by simp only [eq_iff_iff, iff_false]; decide +kernel
@[simp] theorem ne_3_4 : (("or" : Str) = "=") = False := by simp only [eq_iff_iff, iff_false]; decide +kernel
@[simp] theorem ne_3_5 : (("or" : Str) = "<") = False := by simp only [eq_iff_iff, iff_false]; decide +kernel
@[simp] theorem ne_3_6 : (("or" : Str) = "+") = False := by simp only [eq_iff_iff, iff_false]; decide +kernel
@[simp] theorem ne_3_7 : (("or" : Str) = "-") = False := by simp only [eq_iff_iff, iff_false]; decide +kernel
@[simp] theorem ne_3_8 : (("or" : Str) = "*") = False := by simp only [eq_iff_iff, iff_false]; decide +kernel
@[simp] theorem ne_4_0 : (("=" : Str) = "item") = False := by simp only [eq_iff_iff, iff_false]; decide +kernel
@[simp] theorem ne_4_1 : (("=" : Str) = "not") = False := by simp only [eq_iff_iff, iff_false]; decide +kernel
@[simp] theorem ne_4_2 : (("=" : Str) = "and") = False := by simp only [eq_iff_iff, iff_false]; decide +kernel
@[simp] theorem ne_4_3 : (("=" : Str) = "or") = False := by simp only [eq_iff_iff, iff_false]; decide +kernel
@[simp] theorem ne_4_5 : (("=" : Str) = "<") = False := by simp only [eq_iff_iff, iff_false]; decide +kernel
@[simp] theorem ne_4_6 : (("=" : Str) = "+") = False := by simp only [eq_iff_iff, iff_false]; decide +kernel
@[simp] theorem ne_4_7 : (("=" : Str) = "-") = False := by simp only [eq_iff_iff, iff_false]; decide +kernel
@[simp] theorem ne_4_8 : (("=" : Str) = "*") = False := by simp only [eq_iff_iff, iff_false]; decide +kernel
@[simp] theorem ne_5_0 : (("<" : Str) = "item") = False := by simp only [eq_iff_iff, iff_false]; decide +kernel
@[simp] theorem ne_5_1 : (("<" : Str) = "not") = False := by simp only [eq_iff_iff, iff_false]; decide +kernel
@[simp] theorem ne_5_2 : (("<" : Str) = "and") = False := by simp only [eq_iff_iff, iff_false]; decide +kernel
@[simp] theorem ne_5_3 : (("<" : Str) = "or") = False := by simp only [eq_iff_iff, iff_false]; decide +kernel
@[simp] theorem ne_5_4 : (("<" : Str) = "=") = False := by simp only [eq_iff_iff, iff_false]; decide +kernel
@[simp] theorem ne_5_6 : (("<" : Str) = "+") = False := by simp only [eq_iff_iff, iff_false]; decide +kernel
@[simp] theorem ne_5_7 : (("<" : Str) = "-") = False := by simp only [eq_iff_iff, iff_false]; decide +kernel
@[simp] theorem ne_5_8 : (("<" : Str) = "*") = False := by simp only [eq_iff_iff, iff_false]; decide +kernel
@[simp] theorem ne_6_0 : (("+" : Str) = "item") = False := by simp only [eq_iff_iff, iff_false]; decide +kernel
@[simp] theorem ne_6_1 : (("+" : Str) = "not") = False := by simp only [eq_iff_iff, iff_false]; decide +kernel
@[simp] theorem ne_6_2 : (("+" : Str) = "and") = False := by simp only [eq_iff_iff, iff_false]; decide +kernel
@[simp] theorem ne_6_3 : (("+" : Str) = "or") = False := by simp only [eq_iff_iff, iff_false]; decide +kernel
@[simp] theorem ne_6_4 : (("+" : Str) = "=") = False := by simp only [eq_iff_iff, iff_false]; decide +kernel
@[simp] theorem ne_6_5 : (("+" : Str) = "<") = False := by simp only [eq_iff_iff, iff_false]; decide +kernel
@[simp] theorem ne_6_7 : (("+" : Str) = "-") = False := by simp only [eq_iff_iff, iff_false]; decide +kernel
@[simp] theorem ne_6_8 : (("+" : Str) = "*") = False := by simp only [eq_iff_iff, iff_false]; decide +kernel
@[simp] theorem ne_7_0 : (("-" : Str) = "item") = False := by simp only [eq_iff_iff, iff_false]; decide +kernel
@[simp] theorem ne_7_1 : (("-" : Str) = "not") = False := by simp only [eq_iff_iff, iff_false]; decide +kernel
@[simp] theorem ne_7_2 : (("-" : Str) = "and") = False := by simp only [eq_iff_iff, iff_false]; decide +kernel
@[simp] theorem ne_7_3 : (("-" : Str) = "or") = False := by simp only [eq_iff_iff, iff_false]; decide +kernel
@[simp] theorem ne_7_4 : (("-" : Str) = "=") = False := by simp only [eq_iff_iff, iff_false]; decide +kernel
@[simp] theorem ne_7_5 : (("-" : Str) = "<") = False := by simp only [eq_iff_iff, iff_false]; decide +kernel
@[simp] theorem ne_7_6 : (("-" : Str) = "+") = False := by simp only [eq_iff_iff, iff_false]; decide +kernel
@[simp] theorem ne_7_8 : (("-" : Str) = "*") = False := by simp only [eq_iff_iff, iff_false]; decide +kernel
@[simp] theorem ne_8_0 : (("*" : Str) = "item") = False := by simp only [eq_iff_iff, iff_false]; decide +kernel
@[simp] theorem ne_8_1 : (("*" : Str) = "not") = False := by simp only [eq_iff_iff, iff_false]; decide +kernel
@[simp] theorem ne_8_2 : (("*" : Str) = "and") = False := by simp only [eq_iff_iff, iff_false]; decide +kernel
@[simp] theorem ne_8_3 : (("*" : Str) = "or") = False := by simp only [eq_iff_iff, iff_false]; decide +kernel
@[simp] theorem ne_8_4 : (("*" : Str) = "=") = False := by simp only [eq_iff_iff, iff_false]; decide +kernel
@[simp] theorem ne_8_5 : (("*" : Str) = "<") = False := by simp only [eq_iff_iff, iff_false]; decide +kernel
@[simp] theorem ne_8_6 : (("*" : Str) = "+") = False := by simp only [eq_iff_iff, iff_false]; decide +kernel
@[simp] theorem ne_8_7 : (("*" : Str) = "-") = False := by simp only [eq_iff_iff, iff_false]; decide +kernel
section
variable {n : Nat} {st : Cel} {Q : Kp PV} {E : It} {cs : List CX} {F : Fo} {k : Nat} {xs : List Int}
theorem in2 (w a b : Str) : cmpV .in_ (.str w) (.tup [.str a, .str b]) = some (decide (a = w) || decide (b = w)) := by
  show some (L2.inV (.str w) [.str a, .str b]) = _
  congr 1
  rw [Bool.eq_iff_iff]
  simp [L2.inV, L2.eqV]
theorem dct3 (x y z : PV) : dctV [.str "+", x, .str "-", y, .str "*", z] = some (.dct [.inr "+", .inr "-", .inr "*"] [x, y, z]) := by
  simp [dctV, pairsP, keyP]
theorem dg3a (x y z : PV) : dgetV (.dct [.inr "+", .inr "-", .inr "*"] [x, y, z]) (.str "+") = some x := by
  simp [dgetV, keyP, valP]
theorem dg3b (x y z : PV) : dgetV (.dct [.inr "+", .inr "-", .inr "*"] [x, y, z]) (.str "-") = some y := by
  simp [dgetV, keyP, valP]
theorem dg3c (x y z : PV) : dgetV (.dct [.inr "+", .inr "-", .inr "*"] [x, y, z]) (.str "*") = some z := by
  simp [dgetV, keyP, valP]
theorem worth_n (g : GoodE E) (hx : xs.length = E.length) (st : Cel) : ∀ (x : NX) (n : Nat) {Q : Kp PV}, x.ok E.length → x.sm xs → x.dep + 2 ≤ n → Q.run (.int (x.val xs)) st → @R.w _ (P n 21 [shopV E cs F, row xs, x.pv E] st) Q
  | .lit i, n + 2, Q, _, _, _, q => by
    show @R.w _ (P _ 21 [shopV E cs F, row xs, .int i] st) Q
    apply s__law_worth; unfold b__law_worth
    simp
    exact q
  | .item j, n + 2, Q, ho, _, _, q => by
    have hj : j < E.length := ho
    obtain ⟨l1, l2⟩ := g.len
    show @R.w _ (P _ 21 [shopV E cs F, row xs, .tup [.str "item", .str (nm E j)]] st) Q
    apply s__law_worth; unfold b__law_worth
    simp
    refine compL_wq (qs := E) (fun e => .str e.1) ?_ ?_
    · intro e _
      apply R.w_is
      rw [w_turn]
      simp
    · rw [Kp_run, List.length_map, szOk_of (by omega)]
      simp [index_ok g hj]
      unfold row
      simp [atP_zs (show j < xs.length by omega)]
      exact q
  | .op o a b, n + 2, Q, ⟨ha, hb⟩, ⟨sa, sb, lo, hi⟩, hn, q => by
    have hn : a.dep + b.dep + 1 + 2 ≤ n + 2 := hn
    show @R.w _ (P _ 21 [shopV E cs F, row xs, .tup [.str o.s, a.pv E, b.pv E]] st) Q
    apply s__law_worth; unfold b__law_worth
    cases o with
    | add =>
      change @Kp.run PV Q (.int (a.val xs + b.val xs)) st at q
      simp [Op.s]
      refine worth_n g hx st a (n + 1) ha sa (by omega) ?_
      simp
      refine worth_n g hx st b (n + 1) hb sb (by omega) ?_
      simp (disch := omega) [bin_mulc, in2, dct3, dg3a, dg3b, dg3c]
      exact q
    | sub =>
      change @Kp.run PV Q (.int (a.val xs - b.val xs)) st at q
      simp [Op.s]
      refine worth_n g hx st a (n + 1) ha sa (by omega) ?_
      simp
      refine worth_n g hx st b (n + 1) hb sb (by omega) ?_
      simp (disch := omega) [bin_mulc, in2, dct3, dg3a, dg3b, dg3c]
      exact q
    | mul =>
      change @Kp.run PV Q (.int (a.val xs * b.val xs)) st at q
      simp [Op.s]
      refine worth_n g hx st a (n + 1) ha sa (by omega) ?_
      simp
      refine worth_n g hx st b (n + 1) hb sb (by omega) ?_
      simp (disch := omega) [bin_mulc, in2, dct3, dg3a, dg3b, dg3c]
      exact q
theorem worth_c (g : GoodE E) (hx : xs.length = E.length) (st : Cel) : ∀ (x : CX) (n : Nat) {Q : Kp PV}, x.ok E.length → x.sm xs → x.dep + 2 ≤ n → Q.run (.bl (x.val xs)) st → @R.w _ (P n 21 [shopV E cs F, row xs, x.pv E] st) Q
  | .rel w a b, n + 2, Q, ⟨ha, hb⟩, ⟨sa, sb⟩, hn, q => by
    have hn : a.dep + b.dep + 1 + 2 ≤ n + 2 := hn
    cases w with
    | true =>
      show @R.w _ (P _ 21 [shopV E cs F, row xs, .tup [.str "=", a.pv E, b.pv E]] st) Q
      apply s__law_worth; unfold b__law_worth
      simp
      refine worth_n g hx st a (n + 1) ha sa (by omega) ?_
      simp
      refine worth_n g hx st b (n + 1) hb sb (by omega) ?_
      simp [in2]
      exact q
    | false =>
      show @R.w _ (P _ 21 [shopV E cs F, row xs, .tup [.str "<", a.pv E, b.pv E]] st) Q
      apply s__law_worth; unfold b__law_worth
      simp
      refine worth_n g hx st a (n + 1) ha sa (by omega) ?_
      simp
      refine worth_n g hx st b (n + 1) hb sb (by omega) ?_
      simp [in2]
      exact q
  | .no c, n + 2, Q, ho, hs, hn, q => by
    have hn : c.dep + 1 + 2 ≤ n + 2 := hn
    show @R.w _ (P _ 21 [shopV E cs F, row xs, .tup [.str "not", c.pv E]] st) Q
    apply s__law_worth; unfold b__law_worth
    simp
    refine worth_c g hx st c (n + 1) ho hs (by omega) ?_
    simp
    exact q
  | .bin w a b, n + 2, Q, ⟨ha, hb⟩, ⟨sa, sb⟩, hn, q => by
    have hn : a.dep + b.dep + 1 + 2 ≤ n + 2 := hn
    cases w with
    | true =>
      show @R.w _ (P _ 21 [shopV E cs F, row xs, .tup [.str "and", a.pv E, b.pv E]] st) Q
      change @Kp.run PV Q (.bl (a.val xs && b.val xs)) st at q
      apply s__law_worth; unfold b__law_worth
      simp
      refine worth_c g hx st a (n + 1) ha sa (by omega) ?_
      simp
      refine worth_c g hx st b (n + 1) hb sb (by omega) ?_
      simp [in2]
      split <;> simp_all
    | false =>
      show @R.w _ (P _ 21 [shopV E cs F, row xs, .tup [.str "or", a.pv E, b.pv E]] st) Q
      change @Kp.run PV Q (.bl (a.val xs || b.val xs)) st at q
      apply s__law_worth; unfold b__law_worth
      simp
      refine worth_c g hx st a (n + 1) ha sa (by omega) ?_
      simp
      refine worth_c g hx st b (n + 1) hb sb (by omega) ?_
      simp [in2]
      split <;> simp_all
theorem SH_nx (hE : ∀ e ∈ E, PyData.strOk e.1 = true) : ∀ x : NX, x.ok E.length → SH (x.dep + 1) (x.pv E)
  | .lit i, _ => SH.int i _
  | .item j, h => by
    have hj : j < E.length := h
    refine SH.tup fun y hy => ?_
    simp at hy
    rcases hy with rfl | rfl
    · exact SH.str (by decide +kernel) _
    · refine SH.str ?_ _
      unfold nm
      rw [List.getElem?_eq_getElem hj]
      exact hE _ (List.getElem_mem hj)
  | .op o a b, ⟨ha, hb⟩ => by
    refine SH.tup fun y hy => ?_
    simp at hy
    rcases hy with rfl | rfl | rfl
    · exact SH.str (by cases o <;> decide +kernel) _
    · exact (SH_nx hE a ha).mono (by show a.dep + 1 ≤ a.dep + b.dep + 1; omega)
    · exact (SH_nx hE b hb).mono (by show b.dep + 1 ≤ a.dep + b.dep + 1; omega)
theorem SH_cx (hE : ∀ e ∈ E, PyData.strOk e.1 = true) : ∀ x : CX, x.ok E.length → SH (x.dep + 1) (x.pv E)
  | .rel w a b, ⟨ha, hb⟩ => by
    have key : ∀ s : Str, PyData.strOk s = true → SH ((CX.rel w a b).dep + 1) (.tup [.str s, a.pv E, b.pv E]) := fun s hs => by
      refine SH.tup fun y hy => ?_
      simp at hy
      rcases hy with rfl | rfl | rfl
      · exact SH.str hs _
      · exact (SH_nx hE a ha).mono (by show a.dep + 1 ≤ a.dep + b.dep + 1; omega)
      · exact (SH_nx hE b hb).mono (by show b.dep + 1 ≤ a.dep + b.dep + 1; omega)
    cases w
    · exact key "<" (by decide +kernel)
    · exact key "=" (by decide +kernel)
  | .no c, h => by
    refine SH.tup fun y hy => ?_
    simp at hy
    rcases hy with rfl | rfl
    · exact SH.str (by decide +kernel) _
    · exact SH_cx hE c h
  | .bin w a b, ⟨ha, hb⟩ => by
    have key : ∀ s : Str, PyData.strOk s = true → SH ((CX.bin w a b).dep + 1) (.tup [.str s, a.pv E, b.pv E]) := fun s hs => by
      refine SH.tup fun y hy => ?_
      simp at hy
      rcases hy with rfl | rfl | rfl
      · exact SH.str hs _
      · exact (SH_cx hE a ha).mono (by show a.dep + 1 ≤ a.dep + b.dep + 1; omega)
      · exact (SH_cx hE b hb).mono (by show b.dep + 1 ≤ a.dep + b.dep + 1; omega)
    cases w
    · exact key "or" (by decide +kernel)
    · exact key "and" (by decide +kernel)
theorem GoodE.names (g : GoodE E) : ∀ e ∈ E, PyData.strOk e.1 = true := by
  rcases g with ⟨s, l, hh, rfl, h1⟩ | ⟨s, l, hh, t, l', h', rfl, hne, h1, h2⟩
  · simp [h1]
  · simp [h1, h2]
theorem fits_zip2 : ∀ (E : It) (xs : List Int), xs.length = E.length → ((xs.zip E).all fun p => decide (p.2.2.1 ≤ p.1) && decide (p.1 ≤ p.2.2.2)) = fits (rgs E) xs
  | [], [], _ => rfl
  | e :: E, x :: xs, h => by
    have ih := fits_zip2 E xs (by simpa using h)
    show (decide (e.2.1 ≤ x) && decide (x ≤ e.2.2) && ((xs.zip E).all _)) = (decide (e.2.1 ≤ x) && decide (x < e.2.2 + 1) && fits (rgs E) xs)
    rw [ih]
    congr 2
    apply decide_eq_decide.mpr
    omega
  | [], _ :: _, h => by cases h
  | _ :: _, [], h => by cases h
structure FiI (sh sp : PV) (st : Cel) (B : Bool) (r : List PV) (ρ : En) (s : Cel) : Prop where
  ex : s = st ∧ ∃ (L : List (Int × Str × Int × Int)) (x y z w : Slot), r = L.map (fun p => PV.tup [.int p.1, .tup [.str p.2.1, .int p.2.2.1, .int p.2.2.2]]) ∧ ρ = [.val sh, .val sp, x, y, z, w, .emp] ∧ (L.all fun p => decide (p.2.2.1 ≤ p.1) && decide (p.1 ≤ p.2.2.2)) = B
theorem fine_ok (g : GoodE E) (hb : BdE E) (hc : RuOk E cs) (hx : xs.length = E.length) (q : Q.run (.bl (good E cs xs)) st) : @R.w _ (P (n + 20) 22 [shopV E cs F, row xs] st) Q := by
  apply s__law_fine; unfold b__law_fine
  have ez : zipV (row xs) (entV E) = some (.lst ((xs.zip E).map fun p => .tup [.int p.1, .tup [.str p.2.1, .int p.2.2.1, .int p.2.2.2]])) := by
    show some (PV.lst (((zs xs).zip _).map _)) = _
    unfold zs
    rw [List.zip_map, List.map_map]
    rfl
  simp [ez]
  refine forL_w (FiI (shopV E cs F) (row xs) st (fits (rgs E) xs)) ⟨rfl, xs.zip E, _, _, _, _, rfl, rfl, fits_zip2 E xs hx⟩ ?_ ?_
  · rintro x r ρ s ⟨rfl, L, a, b, c, d, e, rfl, hL⟩
    cases L with
    | nil => cases e
    | cons p L =>
      cases e
      rw [bodyL_eq (h := assignT_g1 2 3 4 5 _ _ _ _ _ (by omega) (by omega) (by omega) (by omega))]
      rw [List.all_cons] at hL
      by_cases h1 : p.2.2.1 ≤ p.1
      · by_cases h2 : p.1 ≤ p.2.2.2
        · simp [h1, h2]
          simp [h1, h2] at hL
          exact ⟨rfl, L, _, _, _, _, rfl, rfl, by simpa using hL⟩
        · simp [h1, h2]
          simp [h1, h2] at hL
          unfold good at q
          rw [hL] at q
          simpa using q
      · simp [h1]
        simp [h1] at hL
        unfold good at q
        rw [hL] at q
        simpa using q
  · rintro ρ s ⟨rfl, L, a, b, c, d, e, rfl, hL⟩
    have hL0 : L = [] := by cases L with
      | nil => rfl
      | cons p L => cases e
    subst hL0
    have hf : fits (rgs E) xs = true := hL.symm
    simp
    refine compL_wf (qs := cs) (v := fun c => c.pv E) (fun c => !c.val xs) (fun c => c.pv E) ?_ ?_
    · intro c hcm
      apply R.w_is
      rw [w_turn]
      simp
      obtain ⟨c1, c2, c3⟩ := hc.2 c hcm
      refine worth_c g hx s c (n + 19) c1 (c.sm_of (fits_bd hb hf) c2) (by omega) ?_
      simp
    · rw [Kp_run, List.length_map, szOk_of (Nat.le_trans (List.length_filter_le _ _) (by have := hc.1; omega))]
      have e1 : eqV (.lst ((cs.filter fun c => !c.val xs).map fun c => c.pv E)) (.lst []) = some ((cs.filter fun c => !c.val xs).map fun c => c.pv E).isEmpty := by
        refine eqV_nilr (d := 20) (fun y hy => ?_) (by omega)
        rw [List.mem_map] at hy
        obtain ⟨c, hcm, rfl⟩ := hy
        obtain ⟨c1, c2, c3⟩ := hc.2 c (List.mem_filter.mp hcm).1
        exact (SH_cx g.names c c1).mono (by omega)
      have e2 : ((cs.filter fun c => !c.val xs).map fun c => c.pv E).isEmpty = good E cs xs := by
        unfold good
        rw [hf, Bool.true_and, List.isEmpty_map]
        rw [Bool.eq_iff_iff, List.isEmpty_iff, List.filter_eq_nil_iff, List.all_eq_true]
        simp
      simp [e1]
      rw [← List.isEmpty_map (f := fun c => c.pv E), e2]
      exact q
end
end K19
namespace K19
open PySem L2 Ev
/-! ### all states, the law's own way -/
section
variable {n : Nat} {st : Cel} {Q : Kp PV} {E : It} {cs : List CX} {F : Fo} {k : Nat} {xs : List Int}
theorem stp_snoc (d : List (List Int)) (s : List Int) (r : Int × Int) : stp (d ++ [s]) r = stp d r ++ (rgI r.1 r.2).map fun x => s ++ [x] := by
  unfold stp
  rw [List.flatMap_append]
  simp
theorem rows_app (a b : List (List Int)) : rows (a ++ b) = rows a ++ rows b := List.map_append
theorem rows_len (a : List (List Int)) : (rows a).length = a.length := List.length_map ..
theorem catT_1 {s : List Int} {x : Int} (h : s.length ≤ 1000) : binV .add (row s) (.tup [.int x]) = some (row (s ++ [x])) := by
  show binV .add (.tup (zs s)) (.tup [.int x]) = _
  rw [bin_catT (szOk_of (by rw [zs_length]; simp; omega)), zs_snoc]
  rfl
theorem stp_le {a d t : List (List Int)} {r : Int × Int} (e : a = d ++ t) (hr : (r.2 - r.1).toNat ≤ 20) (ha : a.length * 20 ≤ 400) : (stp d r).length ≤ 400 := by
  rw [stp_len]
  have : d.length ≤ a.length := by rw [e]; simp
  exact Nat.le_trans (Nat.mul_le_mul this hr) ha
structure SpJ (sh l : PV) (acc : List (List Int)) (lo hi : Int) (st : Cel) (r : List PV) (ρ : En) (s : Cel) : Prop where
  ex : s = st ∧ ∃ (d t : List (List Int)) (x6 : Slot), acc = d ++ t ∧ r = rows t ∧ ρ = [.val sh, .val (.lst (rows acc)), .val l, .val (.int lo), .val (.int hi), .own (.lst (rows (stp d (lo, hi + 1)))), x6, .emp]
structure SpI (sh : PV) (W : List (List Int)) (st : Cel) (r : List PV) (ρ : En) (s : Cel) : Prop where
  ex : s = st ∧ ∃ (acc : List (List Int)) (Z : It) (x2 x3 x4 x5 x6 : Slot), r = Z.map (fun e => PV.tup [.str e.1, .int e.2.1, .int e.2.2]) ∧ ρ = [.val sh, .val (.lst (rows acc)), x2, x3, x4, x5, x6, .emp] ∧ Wd20 Z ∧ (∀ s ∈ acc, s.length + Z.length ≤ 2) ∧ acc.length * 20 ^ Z.length ≤ 400 ∧ stx acc (rgs Z) = W
theorem stp_facts {acc : List (List Int)} {Z : It} {lo hi : Int} {e0 : Str × Int × Int} (hr : (hi - lo).toNat ≤ 20) (hl : ∀ s ∈ acc, s.length + (e0 :: Z).length ≤ 2) (hacc : acc.length * 20 ^ (e0 :: Z).length ≤ 400) : acc.length * 20 ≤ 400 ∧ (∀ s ∈ stp acc (lo, hi), s.length + Z.length ≤ 2) ∧ (stp acc (lo, hi)).length * 20 ^ Z.length ≤ 400 := by
  have hln : (stp acc (lo, hi)).length ≤ acc.length * 20 := by
    rw [stp_len]
    exact Nat.mul_le_mul_left _ hr
  have h20 : acc.length * 20 * 20 ^ Z.length ≤ 400 := by
    rw [List.length_cons, Nat.pow_succ, Nat.mul_comm (20 ^ _) 20, ← Nat.mul_assoc] at hacc
    exact hacc
  have hp : 1 ≤ 20 ^ Z.length := Nat.pow_pos (by decide)
  refine ⟨Nat.le_trans (Nat.le_mul_of_pos_right _ hp) h20, fun s hs => ?_, Nat.le_trans (Nat.mul_le_mul_right _ hln) h20⟩
  unfold stp at hs
  rw [List.mem_flatMap] at hs
  obtain ⟨u, hu, hs⟩ := hs
  rw [List.mem_map] at hs
  obtain ⟨x, _, rfl⟩ := hs
  have := hl u hu
  simp at this ⊢
  omega
theorem spots_ok (g : GoodE E) (hw : Wd20 E) (hc : RuOk E cs) (q : Q.run (.lst (rows (goods E cs))) st) : @R.w _ (P (n + 21) 23 [shopV E cs F] st) Q := by
  obtain ⟨l1, l2⟩ := g.len
  have hb : BdE E := hw.bd
  apply s__law_spots; unfold b__law_spots
  simp
  refine forL_w (SpI (shopV E cs F) (stx [[]] (rgs E)) st) ⟨rfl, [[]], E, _, _, _, _, _, rfl, rfl, hw, by simpa using l2, ?_, rfl⟩ ?_ ?_
  · rcases (by omega : E.length = 1 ∨ E.length = 2) with h | h <;> rw [h] <;> decide
  · rintro x r ρ s ⟨rfl, acc, Z, a, b, c, d, f, e, rfl, hR, hl, hacc, hW⟩
    cases Z with
    | nil => cases e
    | cons e0 Z =>
      cases e
      obtain ⟨e1, e2, e3, e4⟩ := hR e0 List.mem_cons_self
      obtain ⟨f1, f2, f3⟩ := stp_facts (lo := e0.2.1) (hi := e0.2.2 + 1) (by omega) hl hacc
      rw [bodyL_eq (h := assignT_3t 2 3 4 _ _ _ _ (by omega) (by omega) (by omega))]
      simp
      refine forL_w (SpJ (shopV E cs F) (.str e0.1) acc e0.2.1 e0.2.2 s) ⟨rfl, [], acc, _, rfl, rfl, rfl⟩ ?_ ?_
      · rintro x r ρ s2 ⟨rfl, d, t, x6, e5, e6, rfl⟩
        cases t with
        | nil => cases e6
        | cons u t =>
          cases e6
          have hu : u.length ≤ 2 := by have := hl u (by rw [e5]; simp); omega
          rw [bodyL_1]
          simp (disch := omega) [rng2V_ok]
          refine compL_wq (qs := rgI e0.2.1 (e0.2.2 + 1)) (v := PV.int) (fun x => row (u ++ [x])) ?_ ?_
          · intro x _
            apply R.w_is
            rw [w_turn]
            simp [catT_1 (s := u) (x := x) (by omega)]
          · have g1 := stp_le (d := d) (t := u :: t) (r := (e0.2.1, e0.2.2 + 1)) e5 (by show (e0.2.2 + 1 - e0.2.1).toNat ≤ 20; omega) f1
            have g2 := stp_le (d := d ++ [u]) (t := t) (r := (e0.2.1, e0.2.2 + 1)) (by rw [e5]; simp) (by show (e0.2.2 + 1 - e0.2.1).toNat ≤ 20; omega) f1
            have ea : rows (stp d (e0.2.1, e0.2.2 + 1)) ++ (rgI e0.2.1 (e0.2.2 + 1)).map (fun x => row (u ++ [x])) = rows (stp (d ++ [u]) (e0.2.1, e0.2.2 + 1)) := by
              rw [stp_snoc, rows_app]
              unfold rows
              rw [List.map_map]
              rfl
            have hz2 : szOk (rows (stp d (e0.2.1, e0.2.2 + 1)) ++ (rgI e0.2.1 (e0.2.2 + 1)).map fun x => row (u ++ [x])).length = true := by rw [ea, rows_len]; exact szOk_of (by omega)
            rw [List.length_append] at hz2
            have hz1 : szOk ((rgI e0.2.1 (e0.2.2 + 1)).map fun x => row (u ++ [x])).length = true := szOk_of (by rw [List.length_map, rgI_len]; omega)
            rw [Kp_run, hz1]
            simp only [if_true, R.w_ok]
            rw [List.length_map] at hz2
            simp
            rw [ea]
            exact ⟨hz2, rfl, d ++ [u], t, _, by rw [e5]; simp, rfl, rfl⟩
      · rintro ρ s2 ⟨rfl, d, t, x6, e5, e6, rfl⟩
        cases t with
        | cons u t => cases e6
        | nil =>
          simp at e5
          subst e5
          simp
          exact ⟨rfl, stp acc (e0.2.1, e0.2.2 + 1), Z, _, _, _, _, _, rfl, rfl, fun e he => hR e (List.mem_cons_of_mem _ he), f2, f3, hW⟩
  · rintro ρ s ⟨rfl, acc, Z, a, b, c, d, f, e, rfl, hR, hl, hacc, hW⟩
    cases Z with
    | cons e0 Z => cases e
    | nil =>
      have hW' : acc = stx [[]] (rgs E) := hW
      simp
      refine compL_wf (qs := acc) (v := row) (good E cs) row ?_ ?_
      · intro xs hxs
        apply R.w_is
        rw [w_turn]
        simp
        rw [hW'] at hxs
        refine fine_ok g hb hc (by rw [fits_len (mem_st.mp hxs)]; unfold rgs; rw [List.length_map]) ?_
        simp
      · have hln : acc.length ≤ 400 := by simpa using hacc
        rw [Kp_run, List.length_map, szOk_of (Nat.le_trans (List.length_filter_le _ _) (by omega))]
        simp
        rw [hW']
        exact q
structure MkI (F : Fo) (sh : PV) (st : Cel) (r : List PV) (ρ : En) (s : Cel) : Prop where
  ex : s = st ∧ ∃ (d t : Fo) (x2 x3 : Slot), F = d ++ t ∧ r = t.map handV ∧ ρ = [.val sh, .own (.lst ((ent d).map fun e => .tup [keyV e.1, row e.2])), x2, x3, .emp, .emp]
theorem ent_snoc (d : Fo) (h : Str × List (Str × List Int)) : ent (d ++ [h]) = ent d ++ h.2.map fun a => ((h.1, a.1), a.2) := by
  unfold ent
  rw [List.flatMap_append]
  simp
theorem ent_pre {d t : Fo} (gf : GoodF (d ++ t) k) : (ent d).length ≤ 9 := by
  have h1 : (ent (d ++ t)).length = (ent d).length + (ent t).length := by
    unfold ent
    rw [List.flatMap_append, List.length_append]
  have := gf.entl
  omega
theorem marks_ok (gf : GoodF F k) (q : Q.run (.lst ((ent F).map fun e => .tup [keyV e.1, row e.2])) st) : @R.w _ (P (n + 1) 25 [shopV E cs F] st) Q := by
  apply s__law_marks; unfold b__law_marks
  simp
  refine forL_w (MkI F (shopV E cs F) st) ⟨rfl, [], F, _, _, rfl, rfl, rfl⟩ ?_ ?_
  · rintro x r ρ s ⟨rfl, d, t, x2, x3, e5, e6, rfl⟩
    cases t with
    | nil => cases e6
    | cons h t =>
      cases e6
      rw [bodyL_eq (h := asg_hand)]
      simp
      refine compL_wq (qs := h.2) (fun a => .tup [keyV (h.1, a.1), row a.2]) ?_ ?_
      · intro a _
        apply R.w_is
        rw [w_turn]
        simp
        rfl
      · have g2 : (ent (d ++ [h])).length ≤ 9 := ent_pre (t := t) (k := k) (by rw [List.append_assoc]; rw [e5] at gf; exact gf)
        have ea : (ent d).map (fun e => PV.tup [keyV e.1, row e.2]) ++ h.2.map (fun a => PV.tup [keyV (h.1, a.1), row a.2]) = (ent (d ++ [h])).map fun e => PV.tup [keyV e.1, row e.2] := by
          rw [ent_snoc, List.map_append, List.map_map]
          rfl
        have hl := congrArg List.length ea
        simp only [List.length_append, List.length_map] at hl
        rw [Kp_run, List.length_map, szOk_of (by omega)]
        simp only [if_true, R.w_ok]
        simp
        rw [ea]
        exact ⟨szOk_of (by omega), rfl, d ++ [h], t, _, _, by rw [e5]; simp, rfl, rfl⟩
  · rintro ρ s ⟨rfl, d, t, x2, x3, e5, e6, rfl⟩
    cases t with
    | cons h t => cases e6
    | nil =>
      simp at e5
      subst e5
      simp
      exact q
end
end K19
namespace K19
open PySem L2 Ev
/-! ### what is drawn: rules -/
section
variable {ns : List Int} {n T : Nat} {st : Cel} {Q : Kp PV} {E : It} {L : PV}
theorem mem_nm : ∀ x ∈ (E.map fun e => PV.str e.1), ∃ j, j < E.length ∧ x = .str (nm E j) := by
  intro x hx
  obtain ⟨j, hj⟩ := List.getElem?_of_mem hx
  rw [List.getElem?_map] at hj
  cases e : E[j]? with
  | none => rw [e] at hj; cases hj
  | some v =>
    rw [e] at hj
    cases hj
    refine ⟨j, ?_, by unfold nm; rw [e]; rfl⟩
    rcases Nat.lt_or_ge j E.length with z | z
    · exact z
    · rw [List.getElem?_eq_none z] at e; cases e
theorem op_mem : ∀ x ∈ ([.str "+", .str "-", .str "*"] : List PV), ∃ o : Op, x = .str o.s := by
  intro x hx
  simp at hx
  rcases hx with rfl | rfl | rfl
  · exact ⟨.add, rfl⟩
  · exact ⟨.sub, rfl⟩
  · exact ⟨.mul, rfl⟩
theorem two_mem {j : Nat} (hj : j < E.length) : ∀ x ∈ ([.int 0, .int 1, .int 2, .int 3, .tup [.str "item", .str (nm E j)], .int (-1)] : List PV), ∃ t : NX, t.ok E.length ∧ t.dep = 0 ∧ t.fine ∧ x = t.pv E := by
  intro x hx
  simp at hx
  rcases hx with rfl | rfl | rfl | rfl | rfl | rfl
  · exact ⟨.lit 0, trivial, rfl, by show (0:Int).natAbs ≤ 1000; decide, rfl⟩
  · exact ⟨.lit 1, trivial, rfl, by show (1:Int).natAbs ≤ 1000; decide, rfl⟩
  · exact ⟨.lit 2, trivial, rfl, by show (2:Int).natAbs ≤ 1000; decide, rfl⟩
  · exact ⟨.lit 3, trivial, rfl, by show (3:Int).natAbs ≤ 1000; decide, rfl⟩
  · exact ⟨.item j, hj, rfl, trivial, rfl⟩
  · exact ⟨.lit (-1), trivial, rfl, by show (-1:Int).natAbs ≤ 1000; decide, rfl⟩
theorem claim0 (g : GoodE E) (hL : L = .lst (E.map fun e => .str e.1) ∨ L = .tup (E.map fun e => .str e.1)) (h : Rd ns T st) (hT : T < 900000) (hn : 3 ≤ n) (q : ∀ (c : CX) st', c.ok E.length → c.fine → c.dep ≤ 3 → Rd ns (T + 7) st' → Q.run (c.pv E) st') : @R.w _ (P n 26 [.cell 0, L, .int 0] st) Q := by
  obtain ⟨n, rfl⟩ : ∃ k, n = k + 1 := ⟨n - 1, by omega⟩
  obtain ⟨l1, l2⟩ := g.len
  apply s__law_claim; unfold b__law_claim
  simp
  refine draw h (by omega) (by omega) (by omega) (by omega) fun d st1 d0 d1 r1 => ?_
  simp [show d < 4 by omega]
  refine choice (fun x => ∃ j, j < E.length ∧ x = .str (nm E j)) hL mem_nm r1 (by omega) (by simp; omega) (by simp; omega) (by omega) fun x st2 hx r2 => ?_
  obtain ⟨j, hj, rfl⟩ := hx
  simp
  refine draw r2 (by omega) (by omega) (by omega) (by omega) fun d2 st3 d20 d21 r3 => ?_
  simp
  split
  · refine choice (fun x => ∃ o : Op, x = .str o.s) (.inl rfl) op_mem r3 (by omega) (by simp) (by simp) (by omega) fun x st4 hx r4 => ?_
    obtain ⟨o, rfl⟩ := hx
    simp
    refine choice (fun x => ∃ j, j < E.length ∧ x = .str (nm E j)) hL mem_nm r4 (by omega) (by simp; omega) (by simp; omega) (by omega) fun x st5 hx r5 => ?_
    obtain ⟨j2, hj2, rfl⟩ := hx
    simp
    refine choice (fun x => ∃ j, j < E.length ∧ x = .str (nm E j)) hL mem_nm r5 (by omega) (by simp; omega) (by simp; omega) (by omega) fun x st6 hx r6 => ?_
    obtain ⟨j3, hj3, rfl⟩ := hx
    simp
    refine choice (fun x => ∃ t : NX, t.ok E.length ∧ t.dep = 0 ∧ t.fine ∧ x = t.pv E) (.inl rfl) (two_mem hj3) r6 (by omega) (by simp) (by simp) (by omega) fun x st7 hx r7 => ?_
    obtain ⟨t, t1, t2, t3, rfl⟩ := hx
    simp
    split
    · exact q (.rel false (.op o (.item j) (.item j2)) t) st7 ⟨⟨hj, hj2⟩, t1⟩ ⟨⟨trivial, trivial, by show 24 ≤ 1000000; decide⟩, t3⟩ (by show ((.op o (.item j) (.item j2)) : NX).dep + t.dep + 1 ≤ 3; rw [t2]; simp [NX.dep]) (r7.mono (by omega))
    · exact q (.no (.rel true (.op o (.item j) (.item j2)) t)) st7 ⟨⟨hj, hj2⟩, t1⟩ ⟨⟨trivial, trivial, by show 24 ≤ 1000000; decide⟩, t3⟩ (by show ((.op o (.item j) (.item j2)) : NX).dep + t.dep + 1 + 1 ≤ 3; rw [t2]; simp [NX.dep]) (r7.mono (by omega))
  ·
    refine choice (fun x => ∃ j, j < E.length ∧ x = .str (nm E j)) hL mem_nm r3 (by omega) (by simp; omega) (by simp; omega) (by omega) fun x st6 hx r6 => ?_
    obtain ⟨j3, hj3, rfl⟩ := hx
    simp
    refine choice (fun x => ∃ t : NX, t.ok E.length ∧ t.dep = 0 ∧ t.fine ∧ x = t.pv E) (.inl rfl) (two_mem hj3) r6 (by omega) (by simp) (by simp) (by omega) fun x st7 hx r7 => ?_
    obtain ⟨t, t1, t2, t3, rfl⟩ := hx
    simp
    split
    · exact q (.rel false (.item j) t) st7 ⟨hj, t1⟩ ⟨trivial, t3⟩ (by show ((.item j) : NX).dep + t.dep + 1 ≤ 3; rw [t2]; simp [NX.dep]) (r7.mono (by omega))
    · exact q (.no (.rel true (.item j) t)) st7 ⟨hj, t1⟩ ⟨trivial, t3⟩ (by show ((.item j) : NX).dep + t.dep + 1 + 1 ≤ 3; rw [t2]; simp [NX.dep]) (r7.mono (by omega))
theorem claim1 (g : GoodE E) (hL : L = .lst (E.map fun e => .str e.1) ∨ L = .tup (E.map fun e => .str e.1)) (h : Rd ns T st) (hT : T < 800000) (hn : 4 ≤ n) (q : ∀ (c : CX) st', c.ok E.length → c.fine → c.dep ≤ 7 → Rd ns (T + 15) st' → Q.run (c.pv E) st') : @R.w _ (P n 26 [.cell 0, L, .int 1] st) Q := by
  obtain ⟨n, rfl⟩ : ∃ k, n = k + 1 := ⟨n - 1, by omega⟩
  obtain ⟨l1, l2⟩ := g.len
  apply s__law_claim; unfold b__law_claim
  simp
  refine draw h (by omega) (by omega) (by omega) (by omega) fun d st1 d0 d1 r1 => ?_
  simp
  split
  · have q : ∀ (c : CX) st', c.ok E.length → c.fine → c.dep ≤ 3 → Rd ns (T + 15) st' → Q.run (c.pv E) st' := fun c st' a b d r => q c st' a b (by omega) r
    refine choice (fun x => ∃ j, j < E.length ∧ x = .str (nm E j)) hL mem_nm r1 (by omega) (by simp; omega) (by simp; omega) (by omega) fun x st2 hx r2 => ?_
    obtain ⟨j, hj, rfl⟩ := hx
    simp
    refine draw r2 (by omega) (by omega) (by omega) (by omega) fun d2 st3 d20 d21 r3 => ?_
    simp
    split
    · refine choice (fun x => ∃ o : Op, x = .str o.s) (.inl rfl) op_mem r3 (by omega) (by simp) (by simp) (by omega) fun x st4 hx r4 => ?_
      obtain ⟨o, rfl⟩ := hx
      simp
      refine choice (fun x => ∃ j, j < E.length ∧ x = .str (nm E j)) hL mem_nm r4 (by omega) (by simp; omega) (by simp; omega) (by omega) fun x st5 hx r5 => ?_
      obtain ⟨j2, hj2, rfl⟩ := hx
      simp
      refine choice (fun x => ∃ j, j < E.length ∧ x = .str (nm E j)) hL mem_nm r5 (by omega) (by simp; omega) (by simp; omega) (by omega) fun x st6 hx r6 => ?_
      obtain ⟨j3, hj3, rfl⟩ := hx
      simp
      refine choice (fun x => ∃ t : NX, t.ok E.length ∧ t.dep = 0 ∧ t.fine ∧ x = t.pv E) (.inl rfl) (two_mem hj3) r6 (by omega) (by simp) (by simp) (by omega) fun x st7 hx r7 => ?_
      obtain ⟨t, t1, t2, t3, rfl⟩ := hx
      simp
      split
      · exact q (.rel false (.op o (.item j) (.item j2)) t) st7 ⟨⟨hj, hj2⟩, t1⟩ ⟨⟨trivial, trivial, by show 24 ≤ 1000000; decide⟩, t3⟩ (by show ((.op o (.item j) (.item j2)) : NX).dep + t.dep + 1 ≤ 3; rw [t2]; simp [NX.dep]) (r7.mono (by omega))
      split
      · exact q (.no (.rel true (.op o (.item j) (.item j2)) t)) st7 ⟨⟨hj, hj2⟩, t1⟩ ⟨⟨trivial, trivial, by show 24 ≤ 1000000; decide⟩, t3⟩ (by show ((.op o (.item j) (.item j2)) : NX).dep + t.dep + 1 + 1 ≤ 3; rw [t2]; simp [NX.dep]) (r7.mono (by omega))
      · exact q (.rel false t (.op o (.item j) (.item j2))) st7 ⟨t1, ⟨hj, hj2⟩⟩ ⟨t3, ⟨trivial, trivial, by show 24 ≤ 1000000; decide⟩⟩ (by show t.dep + ((.op o (.item j) (.item j2)) : NX).dep + 1 ≤ 3; rw [t2]; simp [NX.dep]) (r7.mono (by omega))
    ·
      refine choice (fun x => ∃ j, j < E.length ∧ x = .str (nm E j)) hL mem_nm r3 (by omega) (by simp; omega) (by simp; omega) (by omega) fun x st6 hx r6 => ?_
      obtain ⟨j3, hj3, rfl⟩ := hx
      simp
      refine choice (fun x => ∃ t : NX, t.ok E.length ∧ t.dep = 0 ∧ t.fine ∧ x = t.pv E) (.inl rfl) (two_mem hj3) r6 (by omega) (by simp) (by simp) (by omega) fun x st7 hx r7 => ?_
      obtain ⟨t, t1, t2, t3, rfl⟩ := hx
      simp
      split
      · exact q (.rel false (.item j) t) st7 ⟨hj, t1⟩ ⟨trivial, t3⟩ (by show ((.item j) : NX).dep + t.dep + 1 ≤ 3; rw [t2]; simp [NX.dep]) (r7.mono (by omega))
      split
      · exact q (.no (.rel true (.item j) t)) st7 ⟨hj, t1⟩ ⟨trivial, t3⟩ (by show ((.item j) : NX).dep + t.dep + 1 + 1 ≤ 3; rw [t2]; simp [NX.dep]) (r7.mono (by omega))
      · exact q (.rel false t (.item j)) st7 ⟨t1, hj⟩ ⟨t3, trivial⟩ (by show t.dep + ((.item j) : NX).dep + 1 ≤ 3; rw [t2]; simp [NX.dep]) (r7.mono (by omega))
  · obtain ⟨w, hw, b, rfl⟩ := pick (xs := [.str "and", .str "or"]) (i := d - 4) (P := fun x => ∃ b : Bool, x = if b then .str "and" else .str "or") (by
      intro x hx
      simp at hx
      rcases hx with rfl | rfl
      · exact ⟨true, rfl⟩
      · exact ⟨false, rfl⟩) (by omega) (by simp; omega)
    simp [hw]
    refine claim0 g hL r1 (by omega) (by omega) fun c st2 c1 c2 c3 r2 => ?_
    simp
    refine claim0 g hL r2 (by omega) (by omega) fun e st3 e1 e2 e3 r3 => ?_
    simp
    cases b with
    | true => exact q (.bin true c e) st3 ⟨c1, e1⟩ ⟨c2, e2⟩ (by show c.dep + e.dep + 1 ≤ 7; omega) (r3.mono (by omega))
    | false => exact q (.bin false c e) st3 ⟨c1, e1⟩ ⟨c2, e2⟩ (by show c.dep + e.dep + 1 ≤ 7; omega) (r3.mono (by omega))
end
end K19
namespace K19
open PySem L2 Ev
/-! ### what is drawn: a store -/
@[simp] theorem toIntV_bl (b : Bool) : toIntV (.bl b) = some (.int (if b then 1 else 0)) := rfl
structure FoI (names : List Str) (w : Int) (ns : List Int) (T : Nat) (r : List PV) (ρ : En) (s : Cel) : Prop where
  ex : ∃ (E0 : It) (rest : List Str) (x4 x9 : Slot), r = rest.map .str ∧ names = E0.map (·.1) ++ rest ∧ ρ = [.val (.cell 0), .val (.tup (names.map .str)), .val (.int w), .own (.lst (E0.map fun e => .tup [.str e.1, .int e.2.1, .int e.2.2])), x4, .emp, .emp, .emp, .emp, x9, .emp, .emp, .emp] ∧ (∀ e ∈ E0, -2 ≤ e.2.1 ∧ e.2.1 ≤ 1 ∧ e.2.2 = e.2.1 + w) ∧ Rd ns (T + E0.length) s
structure FkI (E : It) (names : List Str) (w : Int) (ns : List Int) (T : Nat) (ws : List Str) (r : List PV) (ρ : En) (s : Cel) : Prop where
  ex : ∃ (F0 : Fo) (rest : List Str) (x4 x6 x9 x10 x11 : Slot), r = rest.map .str ∧ ws = F0.map (·.1) ++ rest ∧ ρ = [.val (.cell 0), .val (.tup (names.map .str)), .val (.int w), .own (.lst (E.map fun e => .tup [.str e.1, .int e.2.1, .int e.2.2])), x4, .own (.lst (F0.map handV)), x6, .emp, .emp, x9, x10, x11, .emp] ∧ (∀ h ∈ F0, ActsOk names.length h.2) ∧ Rd ns (T + 5 + 20 * F0.length) s
structure AcI (E : It) (names : List Str) (w : Int) (ns : List Int) (T : Nat) (F0 : Fo) (v : Str) (r : List PV) (ρ : En) (s : Cel) : Prop where
  ex : ∃ (A0 : List (Str × List Int)) (rest : List Str) (x4 x9 x11 : Slot), r = rest.map .str ∧ (A0.map (·.1) ++ rest).Pairwise slt ∧ (A0.map (·.1) ++ rest).length ≤ 3 ∧ (∀ s ∈ A0.map (·.1) ++ rest, NmOk s) ∧ (∀ d ∈ A0, d.2.length = names.length ∧ ∀ x ∈ d.2, x.natAbs ≤ 2) ∧
    ρ = [.val (.cell 0), .val (.tup (names.map .str)), .val (.int w), .own (.lst (E.map fun e => .tup [.str e.1, .int e.2.1, .int e.2.2])), x4, .own (.lst (F0.map handV)), .val (.str v), .emp, .emp, x9, .own (.lst (A0.map fun d => .tup [.str d.1, row d.2])), x11, .emp] ∧ Rd ns (T + 3 * (3 - rest.length)) s
structure LoI (names : List Str) (ns : List Int) (T : Nat) (r acc : List PV) (s : Cel) : Prop where
  ex : ∃ zs0 : List Int, acc = zs zs0 ∧ zs0.length + r.length = names.length ∧ (∀ x ∈ zs0, x.natAbs ≤ 2) ∧ Rd ns (T + zs0.length) s
structure ClI (E : It) (ns : List Int) (T : Nat) (r acc : List PV) (s : Cel) : Prop where
  ex : ∃ cs : List CX, acc = cs.map (fun c => c.pv E) ∧ (∀ c ∈ cs, c.ok E.length ∧ c.fine ∧ c.dep ≤ 10) ∧ cs.length + r.length ≤ 2 ∧ Rd ns (T + 15 * cs.length) s
theorem goodE_of {E : It} (nd : (E.map (·.1)).Nodup) (sok : ∀ s ∈ E.map (·.1), PyData.strOk s = true) (hl : E.length = 1 ∨ E.length = 2) : GoodE E := by
  rcases hl with hl | hl
  · match E, hl with
    | [(s, l, h)], _ => exact .inl ⟨s, l, h, rfl, sok s (by simp)⟩
  · match E, hl with
    | [(s, l, h), (t, l', h')], _ => exact .inr ⟨s, l, h, t, l', h', rfl, by simpa using nd, sok s (by simp), sok t (by simp)⟩
theorem st_small {E : It} {w : Int} (hE : ∀ e ∈ E, e.2.2 = e.2.1 + w) (h : (E.length = 1 ∧ w ≤ 8) ∨ (E.length = 2 ∧ w = 2)) : (stx [[]] (rgs E)).length < 64 := by
  rcases h with ⟨h1, h2⟩ | ⟨h1, h2⟩
  · match E, h1 with
    | [e], _ =>
      have := hE e (by simp)
      show (stp [[]] (e.2.1, e.2.2 + 1)).length < 64
      rw [stp_len]
      show 1 * (e.2.2 + 1 - e.2.1).toNat < 64
      omega
  · match E, h1 with
    | [e, f], _ =>
      have h3 := hE e (by simp)
      have h4 := hE f (by simp)
      show (stp (stp [[]] (e.2.1, e.2.2 + 1)) (f.2.1, f.2.2 + 1)).length < 64
      rw [stp_len, stp_len]
      show 1 * (e.2.2 + 1 - e.2.1).toNat * (f.2.2 + 1 - f.2.1).toNat < 64
      rw [show (e.2.2 + 1 - e.2.1).toNat = 3 by omega, show (f.2.2 + 1 - f.2.1).toNat = 3 by omega]
      decide
theorem hands_cut (d : Int) : ∃ ws : List Str, cutP [.str "ann", .str "bob", .str "cy"] none (some (2 + if d = 0 then 1 else 0)) = ws.map .str ∧ ws.Pairwise slt ∧ ws.length ≤ 3 ∧ (∀ s ∈ ws, NmOk s) ∧ 2 ≤ ws.length := by
  by_cases h : d = 0
  · rw [if_pos h]
    exact ⟨["ann", "bob", "cy"], rfl, by decide +kernel, by simp, by decide +kernel, by simp⟩
  · rw [if_neg h]
    exact ⟨["ann", "bob"], rfl, by decide +kernel, by simp, by decide +kernel, by simp⟩
theorem goods_ne {E : It} (h : Wd20 E) : goods E [] ≠ [] := by
  have key : ∀ {E : It}, Wd20 E → fits (rgs E) (E.map fun e => e.2.1) = true := by
    intro E
    induction E with
    | nil => intro _; rfl
    | cons e E ih =>
      intro h
      obtain ⟨a, b, c, d⟩ := h e List.mem_cons_self
      show (decide (e.2.1 ≤ e.2.1) && decide (e.2.1 < e.2.2 + 1) && fits (rgs E) _) = true
      rw [ih fun x hx => h x (List.mem_cons_of_mem _ hx), decide_eq_true (Int.le_refl _), decide_eq_true (by omega)]
      rfl
  intro z
  have := key h
  have m : (E.map fun e => e.2.1) ∈ goods E [] := by
    unfold goods
    rw [List.mem_filter]
    exact ⟨mem_st.mpr this, by unfold good; rw [this]; rfl⟩
  rw [z] at m
  cases m
/-- a store as it is drawn -/
structure ShopOk (E : It) (cs : List CX) (F : Fo) : Prop where
  g : GoodE E
  w : Wd20 E
  c : RuOk E cs
  cl : cs.length ≤ 2
  f : GoodF F E.length
  nm : ∀ e ∈ E, e.1.length ≤ 8
  ne : goods E cs ≠ []
  sm : (stx [[]] (rgs E)).length < 64
  two : 2 ≤ F.length
set_option maxHeartbeats 2000000 in
theorem shop_ok {ns : List Int} {n T : Nat} {st : Cel} {Q : Kp PV} (h : Rd ns T st) (hT : T < 500000) (q : ∀ (E : It) (cs : List CX) (F : Fo) st', ShopOk E cs F → Rd ns (T + 200) st' → Q.run (shopV E cs F) st') : @R.w _ (P (n + 22) 27 [.cell 0] st) Q := by
  apply s__law_shop; unfold b__law_shop
  simp
  refine choice (fun x => ∃ names : List Str, x = .tup (names.map .str) ∧ (names.length = 1 ∨ names.length = 2) ∧ names.Nodup ∧ ∀ s ∈ names, NmOk s) (.inl rfl) (by
    intro x hx
    simp at hx
    rcases hx with rfl | rfl | rfl | rfl | rfl
    · exact ⟨["coins"], rfl, .inl rfl, by decide +kernel, by decide +kernel⟩
    · exact ⟨["item"], rfl, .inl rfl, by decide +kernel, by decide +kernel⟩
    · exact ⟨["cards", "coins"], rfl, .inr rfl, by decide +kernel, by decide +kernel⟩
    · exact ⟨["coins"], rfl, .inl rfl, by decide +kernel, by decide +kernel⟩
    · exact ⟨["not", "zzzzzzzz"], rfl, .inr rfl, by decide +kernel, by decide +kernel⟩) h (by omega) (by simp) (by simp) (by omega) fun x st1 hx r1 => ?_
  obtain ⟨names, rfl, ln, nd, sok⟩ := hx
  simp
  split
  · refine draw r1 (by omega) (by omega) (by omega) (by omega) fun d st2 d0 d1 r2 => ?_
    simp
    generalize hw : 4 + d = w
    have hw1 : 2 ≤ w ∧ w ≤ 8 := by omega
    generalize hT1 : T + 1 + 1 = T1 at r2
    refine forL_w (FoI names w ns T1) ⟨[], names, _, _, rfl, rfl, rfl, by simp, r2⟩ ?_ ?_
    · rintro x r ρ s ⟨E0, rest, x4, x9, e1, e2, rfl, hE, r3⟩
      cases rest with
      | nil => cases e1
      | cons l rest =>
        cases e1
        have hl2 : E0.length ≤ 2 := by have := congrArg List.length e2; simp at this; omega
        rw [bodyL_1]
        simp
        refine choice (fun x => ∃ i : Int, x = .int i ∧ -2 ≤ i ∧ i ≤ 1) (.inl rfl) (by simp) r3 (by omega) (by simp) (by simp) (by omega) fun x st4 hx r4 => ?_
        obtain ⟨i, rfl, i1, i2⟩ := hx
        simp
        refine ⟨szOk_of (by omega), E0 ++ [(l, i, i + w)], rest, .val (.str l), .val (.int i), rfl, by rw [e2]; simp, by simp, ?_, by simpa [Nat.add_assoc] using r4⟩
        intro e he
        rcases List.mem_append.mp he with he | he
        · exact hE e he
        · cases List.mem_singleton.mp he
          exact ⟨i1, i2, rfl⟩
    · rintro ρ s ⟨E, rest, x4, x9, e1, e2, rfl, hE, r3⟩
      cases rest with
      | cons l rest => cases e1
      | nil =>
        rw [List.append_nil] at e2
        have hlE : E.length = names.length := by rw [e2, List.length_map]
        have gE : GoodE E := goodE_of (by rw [← e2]; exact nd) (by rw [← e2]; exact fun s hs => (sok s hs).1) (by omega)
        have wE : Wd20 E := fun e he => by
          obtain ⟨a, b, c⟩ := hE e he
          exact ⟨by omega, by omega, by omega, by omega⟩
        have hsm : (stx [[]] (rgs E)).length < 64 := st_small (fun e he => (hE e he).2.2) (by omega)
        simp
        refine draw r3 (by omega) (by omega) (by omega) (by omega) fun d st4 d0 d1 r4 => ?_
        obtain ⟨ws, hws, nw, lw, sw, lw2⟩ := hands_cut d
        simp [hws]
        refine forL_w (FkI E names w ns T1 ws) ⟨[], ws, _, _, _, _, _, rfl, rfl, rfl, by simp, r4.mono (by simp; omega)⟩ ?_ ?_
        · rintro x r ρ s ⟨F0, rest, y4, y6, y9, y10, y11, f1, f2, rfl, hF, r5⟩
          cases rest with
          | nil => cases f1
          | cons v rest =>
            cases f1
            have hl3 : F0.length ≤ 2 := by have := congrArg List.length f2; simp at this; omega
            rw [bodyL_1]
            simp
            refine forL_w (AcI E names w ns (T1 + 5 + 20 * F0.length) F0 v) ⟨[], ["give", "put", "take"], _, _, _, rfl, by decide +kernel, by simp, by decide +kernel, by simp, rfl, r5.mono (by simp)⟩ ?_ ?_
            · rintro x r ρ s ⟨A0, rest2, z4, z9, z11, g1, g2, g3, g4, g5, rfl, r6⟩
              cases rest2 with
              | nil => cases g1
              | cons a rest2 =>
                cases g1
                have gl : A0.length + rest2.length ≤ 2 := by simp at g3; omega
                rw [bodyL_1]
                simp
                refine draw r6 (by simp; omega) (by omega) (by omega) (by omega) fun d2 st7 d20 d21 r7 => ?_
                simp
                split
                · refine compL_w (LoI names ns (T1 + 5 + 20 * F0.length + 3 * (3 - (a :: rest2).length) + 1)) ⟨[], rfl, by simp, by simp, r7.mono (by simp)⟩ ?_ ?_
                  · rintro x r acc s ⟨zs0, rfl, hz, hz2, r8⟩
                    rw [w_turn]
                    simp at hz
                    simp
                    refine choice (fun x => ∃ i : Int, x = .int i ∧ i.natAbs ≤ 2) (.inl rfl) (by simp) r8 (by simp; omega) (by simp) (by simp) (by omega) fun x st9 hx r9 => ?_
                    obtain ⟨i, rfl, hi2⟩ := hx
                    simp
                    exact ⟨zs0 ++ [i], by simp [zs], by simp; omega, fun x hx => by
                      rcases List.mem_append.mp hx with hx | hx
                      · exact hz2 x hx
                      · cases List.mem_singleton.mp hx; exact hi2, by simpa [Nat.add_assoc] using r9⟩
                  · rintro ys s ⟨zs0, rfl, hz, hz2, r8⟩
                    simp at hz
                    rw [Kp_run, zs_length, szOk_of (by omega)]
                    simp
                    refine ⟨szOk_of (by omega), A0 ++ [(a, zs0)], rest2, z4, z9, .val (.str a), rfl, by simpa using g2, by simp at g3 ⊢; omega, by simpa using g4, ?_, by simp [row], r8.mono (by simp; omega)⟩
                    intro d hd
                    rcases List.mem_append.mp hd with hd | hd
                    · exact g5 d hd
                    · cases List.mem_singleton.mp hd
                      exact ⟨hz, hz2⟩
                · have hsub : (A0.map (·.1) ++ rest2).Sublist (A0.map (·.1) ++ a :: rest2) := List.Sublist.append_left (List.sublist_cons_self a rest2) _
                  exact ⟨A0, rest2, _, _, _, rfl, g2.sublist hsub, by simp at g3 ⊢; omega, fun s hs => g4 s (hsub.subset hs), g5, rfl, r7.mono (by simp; omega)⟩
            · rintro ρ s ⟨A0, rest2, z4, z9, z11, g1, g2, g3, g4, g5, rfl, r6⟩
              cases rest2 with
              | cons a rest2 => cases g1
              | nil =>
                rw [List.append_nil] at g2 g3 g4
                rw [List.length_map] at g3
                simp
                refine ⟨szOk_of (by omega), F0 ++ [(v, A0)], rest, z4, .val (.str v), z9, .own (.lst (A0.map fun d => .tup [.str d.1, row d.2])), z11, rfl, by rw [f2]; simp, by simp [handV, actsV], ?_, r6.mono (by simp; omega)⟩
                intro h hh
                rcases List.mem_append.mp hh with hh | hh
                · exact hF h hh
                · cases List.mem_singleton.mp hh
                  exact ⟨g3, by simpa using g2, fun d hd => ⟨(g5 d hd).1, g4 d.1 (List.mem_map.mpr ⟨d, hd, rfl⟩), (g5 d hd).2⟩⟩
        · rintro ρ s ⟨F, rest, y4, y6, y9, y10, y11, f1, f2, rfl, hF, r5⟩
          cases rest with
          | cons v rest => cases f1
          | nil =>
            rw [List.append_nil] at f2
            have hlF : F.length ≤ 3 := by rw [f2, List.length_map] at lw; exact lw
            have hlF2 : 2 ≤ F.length := by rw [f2, List.length_map] at lw2; exact lw2
            have gF : GoodF F E.length := ⟨hlF, by rw [← f2]; exact nw, fun h hh => sw _ (by rw [f2]; exact List.mem_map.mpr ⟨h, hh, rfl⟩), fun h hh => by rw [hlE]; exact hF h hh⟩
            have nmE : ∀ e ∈ E, e.1.length ≤ 8 := fun e he => (sok e.1 (by rw [e2]; exact List.mem_map.mpr ⟨e, he, rfl⟩)).2
            simp
            refine draw r5 (by omega) (by omega) (by omega) (by omega) fun d3 st8 d30 d31 r8 => ?_
            simp [rng1V_int d30 (by omega)]
            refine compL_w (ClI E ns (T1 + 100)) ⟨[], rfl, by simp, by unfold rngP; simp; omega, r8.mono (by omega)⟩ ?_ ?_
            · rintro x r acc s ⟨cs, rfl, hc, hl4, r9⟩
              rw [w_turn]
              simp
              simp at hl4
              have eL : PV.tup (names.map PV.str) = .tup (E.map fun e => .str e.1) := by rw [e2, List.map_map]; rfl
              rw [eL]
              refine claim1 gE (.inr rfl) r9 (by omega) (by omega) fun c st10 c1 c2 c3 r10 => ?_
              simp
              refine ⟨cs ++ [c], by simp, ?_, by simp; omega, by rw [List.length_append]; simpa [Nat.mul_add, Nat.add_assoc] using r10⟩
              intro e he
              rcases List.mem_append.mp he with he | he
              · exact hc e he
              · cases List.mem_singleton.mp he
                exact ⟨c1, c2, by omega⟩
            · rintro ys s ⟨cs, rfl, hc, hl4, r9⟩
              simp at hl4
              have hr : RuOk E cs := ⟨by omega, hc⟩
              rw [Kp_run, List.length_map, szOk_of (by omega)]
              simp
              refine spots_ok (n := n) (E := E) (cs := cs) (F := F) gE wE hr ?_
              simp [eqV_rows0]
              split
              · rename_i hne
                exact q E [] F s ⟨gE, wE, ⟨by simp, by simp⟩, by simp, gF, nmE, goods_ne wE, hsm, hlF2⟩ (r9.mono (by omega))
              · rename_i hne
                exact q E cs F s ⟨gE, wE, hr, by omega, gF, nmE, hne, hsm, hlF2⟩ (r9.mono (by omega))
  · have r2 := r1.mono (T' := T + 1 + 1) (by omega)
    generalize hT1 : T + 1 + 1 = T1 at r2
    refine forL_w (FoI names 2 ns T1) ⟨[], names, _, _, rfl, rfl, rfl, by simp, r2⟩ ?_ ?_
    · rintro x r ρ s ⟨E0, rest, x4, x9, e1, e2, rfl, hE, r3⟩
      cases rest with
      | nil => cases e1
      | cons l rest =>
        cases e1
        have hl2 : E0.length ≤ 2 := by have := congrArg List.length e2; simp at this; omega
        rw [bodyL_1]
        simp
        refine choice (fun x => ∃ i : Int, x = .int i ∧ -2 ≤ i ∧ i ≤ 1) (.inl rfl) (by simp) r3 (by omega) (by simp) (by simp) (by omega) fun x st4 hx r4 => ?_
        obtain ⟨i, rfl, i1, i2⟩ := hx
        simp
        refine ⟨szOk_of (by omega), E0 ++ [(l, i, i + 2)], rest, .val (.str l), .val (.int i), rfl, by rw [e2]; simp, by simp, ?_, by simpa [Nat.add_assoc] using r4⟩
        intro e he
        rcases List.mem_append.mp he with he | he
        · exact hE e he
        · cases List.mem_singleton.mp he
          exact ⟨i1, i2, rfl⟩
    · rintro ρ s ⟨E, rest, x4, x9, e1, e2, rfl, hE, r3⟩
      cases rest with
      | cons l rest => cases e1
      | nil =>
        rw [List.append_nil] at e2
        have hlE : E.length = names.length := by rw [e2, List.length_map]
        have gE : GoodE E := goodE_of (by rw [← e2]; exact nd) (by rw [← e2]; exact fun s hs => (sok s hs).1) (by omega)
        have wE : Wd20 E := fun e he => by
          obtain ⟨a, b, c⟩ := hE e he
          exact ⟨by omega, by omega, by omega, by omega⟩
        have hsm : (stx [[]] (rgs E)).length < 64 := st_small (fun e he => (hE e he).2.2) (by omega)
        simp
        refine draw r3 (by omega) (by omega) (by omega) (by omega) fun d st4 d0 d1 r4 => ?_
        obtain ⟨ws, hws, nw, lw, sw, lw2⟩ := hands_cut d
        simp [hws]
        refine forL_w (FkI E names 2 ns T1 ws) ⟨[], ws, _, _, _, _, _, rfl, rfl, rfl, by simp, r4.mono (by simp; omega)⟩ ?_ ?_
        · rintro x r ρ s ⟨F0, rest, y4, y6, y9, y10, y11, f1, f2, rfl, hF, r5⟩
          cases rest with
          | nil => cases f1
          | cons v rest =>
            cases f1
            have hl3 : F0.length ≤ 2 := by have := congrArg List.length f2; simp at this; omega
            rw [bodyL_1]
            simp
            refine forL_w (AcI E names 2 ns (T1 + 5 + 20 * F0.length) F0 v) ⟨[], ["give", "put", "take"], _, _, _, rfl, by decide +kernel, by simp, by decide +kernel, by simp, rfl, r5.mono (by simp)⟩ ?_ ?_
            · rintro x r ρ s ⟨A0, rest2, z4, z9, z11, g1, g2, g3, g4, g5, rfl, r6⟩
              cases rest2 with
              | nil => cases g1
              | cons a rest2 =>
                cases g1
                have gl : A0.length + rest2.length ≤ 2 := by simp at g3; omega
                rw [bodyL_1]
                simp
                refine draw r6 (by simp; omega) (by omega) (by omega) (by omega) fun d2 st7 d20 d21 r7 => ?_
                simp
                split
                · refine compL_w (LoI names ns (T1 + 5 + 20 * F0.length + 3 * (3 - (a :: rest2).length) + 1)) ⟨[], rfl, by simp, by simp, r7.mono (by simp)⟩ ?_ ?_
                  · rintro x r acc s ⟨zs0, rfl, hz, hz2, r8⟩
                    rw [w_turn]
                    simp at hz
                    simp
                    refine choice (fun x => ∃ i : Int, x = .int i ∧ i.natAbs ≤ 2) (.inl rfl) (by simp) r8 (by simp; omega) (by simp) (by simp) (by omega) fun x st9 hx r9 => ?_
                    obtain ⟨i, rfl, hi2⟩ := hx
                    simp
                    exact ⟨zs0 ++ [i], by simp [zs], by simp; omega, fun x hx => by
                      rcases List.mem_append.mp hx with hx | hx
                      · exact hz2 x hx
                      · cases List.mem_singleton.mp hx; exact hi2, by simpa [Nat.add_assoc] using r9⟩
                  · rintro ys s ⟨zs0, rfl, hz, hz2, r8⟩
                    simp at hz
                    rw [Kp_run, zs_length, szOk_of (by omega)]
                    simp
                    refine ⟨szOk_of (by omega), A0 ++ [(a, zs0)], rest2, z4, z9, .val (.str a), rfl, by simpa using g2, by simp at g3 ⊢; omega, by simpa using g4, ?_, by simp [row], r8.mono (by simp; omega)⟩
                    intro d hd
                    rcases List.mem_append.mp hd with hd | hd
                    · exact g5 d hd
                    · cases List.mem_singleton.mp hd
                      exact ⟨hz, hz2⟩
                · have hsub : (A0.map (·.1) ++ rest2).Sublist (A0.map (·.1) ++ a :: rest2) := List.Sublist.append_left (List.sublist_cons_self a rest2) _
                  exact ⟨A0, rest2, _, _, _, rfl, g2.sublist hsub, by simp at g3 ⊢; omega, fun s hs => g4 s (hsub.subset hs), g5, rfl, r7.mono (by simp; omega)⟩
            · rintro ρ s ⟨A0, rest2, z4, z9, z11, g1, g2, g3, g4, g5, rfl, r6⟩
              cases rest2 with
              | cons a rest2 => cases g1
              | nil =>
                rw [List.append_nil] at g2 g3 g4
                rw [List.length_map] at g3
                simp
                refine ⟨szOk_of (by omega), F0 ++ [(v, A0)], rest, z4, .val (.str v), z9, .own (.lst (A0.map fun d => .tup [.str d.1, row d.2])), z11, rfl, by rw [f2]; simp, by simp [handV, actsV], ?_, r6.mono (by simp; omega)⟩
                intro h hh
                rcases List.mem_append.mp hh with hh | hh
                · exact hF h hh
                · cases List.mem_singleton.mp hh
                  exact ⟨g3, by simpa using g2, fun d hd => ⟨(g5 d hd).1, g4 d.1 (List.mem_map.mpr ⟨d, hd, rfl⟩), (g5 d hd).2⟩⟩
        · rintro ρ s ⟨F, rest, y4, y6, y9, y10, y11, f1, f2, rfl, hF, r5⟩
          cases rest with
          | cons v rest => cases f1
          | nil =>
            rw [List.append_nil] at f2
            have hlF : F.length ≤ 3 := by rw [f2, List.length_map] at lw; exact lw
            have hlF2 : 2 ≤ F.length := by rw [f2, List.length_map] at lw2; exact lw2
            have gF : GoodF F E.length := ⟨hlF, by rw [← f2]; exact nw, fun h hh => sw _ (by rw [f2]; exact List.mem_map.mpr ⟨h, hh, rfl⟩), fun h hh => by rw [hlE]; exact hF h hh⟩
            have nmE : ∀ e ∈ E, e.1.length ≤ 8 := fun e he => (sok e.1 (by rw [e2]; exact List.mem_map.mpr ⟨e, he, rfl⟩)).2
            simp
            refine draw r5 (by omega) (by omega) (by omega) (by omega) fun d3 st8 d30 d31 r8 => ?_
            simp [rng1V_int d30 (by omega)]
            refine compL_w (ClI E ns (T1 + 100)) ⟨[], rfl, by simp, by unfold rngP; simp; omega, r8.mono (by omega)⟩ ?_ ?_
            · rintro x r acc s ⟨cs, rfl, hc, hl4, r9⟩
              rw [w_turn]
              simp
              simp at hl4
              have eL : PV.tup (names.map PV.str) = .tup (E.map fun e => .str e.1) := by rw [e2, List.map_map]; rfl
              rw [eL]
              refine claim1 gE (.inr rfl) r9 (by omega) (by omega) fun c st10 c1 c2 c3 r10 => ?_
              simp
              refine ⟨cs ++ [c], by simp, ?_, by simp; omega, by rw [List.length_append]; simpa [Nat.mul_add, Nat.add_assoc] using r10⟩
              intro e he
              rcases List.mem_append.mp he with he | he
              · exact hc e he
              · cases List.mem_singleton.mp he
                exact ⟨c1, c2, by omega⟩
            · rintro ys s ⟨cs, rfl, hc, hl4, r9⟩
              simp at hl4
              have hr : RuOk E cs := ⟨by omega, hc⟩
              rw [Kp_run, List.length_map, szOk_of (by omega)]
              simp
              refine spots_ok (n := n) (E := E) (cs := cs) (F := F) gE wE hr ?_
              simp [eqV_rows0]
              split
              · rename_i hne
                exact q E [] F s ⟨gE, wE, ⟨by simp, by simp⟩, by simp, gF, nmE, goods_ne wE, hsm, hlF2⟩ (r9.mono (by omega))
              · rename_i hne
                exact q E cs F s ⟨gE, wE, hr, by omega, gF, nmE, hne, hsm, hlF2⟩ (r9.mono (by omega))
end K19
namespace K19
open PySem L2 Ev
/-! ### the order of keys -/
def keyD (a : Str × Str) : PyData := .tuple [.str a.1, .str a.2]
def klt (a b : Str × Str) : Bool := PySem.W.dataLt (keyD a) (keyD b)
theorem klt_irrefl (a : Str × Str) : klt a a = false := PyProof.Rows.lex_irrefl _
theorem klt_trans {a b c : Str × Str} (h : klt a b = true) (k : klt b c = true) : klt a c = true := PyProof.Rows.lex_trans _ _ _ h k
theorem klt_asymm {a b : Str × Str} (h : klt a b = true) : klt b a = false := by
  cases e : klt b a with
  | false => rfl
  | true => have := klt_trans h e; rw [klt_irrefl] at this; cases this
theorem shaped_key {a : Str × Str} (h : PyData.strOk a.1 = true ∧ PyData.strOk a.2 = true) : SeqAt.shaped (keyD a) = true := by
  simp [SeqAt.shaped, keyD, PyData.canLay0, PyData.canLayAll0, PyData.depth, PyData.depthAll, h.1, h.2]
theorem cmp_key {a b : Str × Str} (ha : PyData.strOk a.1 = true ∧ PyData.strOk a.2 = true) (hb : PyData.strOk b.1 = true ∧ PyData.strOk b.2 = true) : cmpV .lt (keyV a) (keyV b) = some (klt a b) := by
  show ltD (.tup [.str a.1, .str a.2]) (.tup [.str b.1, .str b.2]) = _
  show (if (SeqAt.shaped (keyD a) && SeqAt.shaped (keyD b) && PySem.W.alike (keyD a) (keyD b) && !isNoneD (keyD a)) = true then some (PySem.W.dataLt (keyD a) (keyD b)) else none) = _
  rw [shaped_key ha, shaped_key hb]
  have e : PySem.W.alike (keyD a) (keyD b) = true := by simp [keyD, PySem.W.alike, PySem.W.alikeAll]
  rw [e]
  rfl
theorem eqv_str (a b : Str) : PyData.eqv (.str a) (.str b) = decide (a = b) := by
  simp only [PyData.eqv]
  by_cases h : a = b <;> simp [h]
theorem klt_hand {a b : Str × Str} (h : slt a.1 b.1) : klt a b = true := by
  have hne : a.1 ≠ b.1 := fun e => by rw [e] at h; exact List.lt_irrefl _ h
  unfold klt keyD
  rw [PySem.W.dataLt_tuple, PySem.W.dataLt_all_no (by simp [PySem.W.alike]) (by rw [eqv_str]; exact decide_eq_false hne), PySem.W.dataLt_str]
  exact decide_eq_true h
theorem klt_deed {w a b : Str} (h : slt a b) : klt (w, a) (w, b) = true := by
  have hne : a ≠ b := fun e => by rw [e] at h; exact List.lt_irrefl _ h
  unfold klt keyD
  rw [PySem.W.dataLt_tuple, PySem.W.dataLt_all_yes (by simp [PySem.W.alike]) (by rw [eqv_str]; exact decide_eq_true rfl), PySem.W.dataLt_all_no (by simp [PySem.W.alike]) (by rw [eqv_str]; exact decide_eq_false hne), PySem.W.dataLt_str]
  exact decide_eq_true h
theorem keysF_cons (h : Str × List (Str × List Int)) (F : Fo) : keysF (h :: F) = (h.2.map fun d => (h.1, d.1)) ++ keysF F := by
  show (((h.2.map fun d => ((h.1, d.1), d.2)) ++ ent F)).map (·.1) = _
  rw [List.map_append, List.map_map]
  rfl
theorem keys_asc : ∀ {F : Fo}, (F.map (·.1)).Pairwise slt → (∀ h ∈ F, (h.2.map (·.1)).Pairwise slt) → (keysF F).Pairwise fun a b => klt a b = true
  | [], _, _ => List.Pairwise.nil
  | h :: F, h1, h2 => by
    rw [keysF_cons, List.pairwise_append]
    rw [List.map_cons, List.pairwise_cons] at h1
    refine ⟨?_, keys_asc h1.2 fun b hb => h2 b (List.mem_cons_of_mem _ hb), ?_⟩
    · have := h2 h List.mem_cons_self
      rw [List.pairwise_map] at this ⊢
      exact this.imp fun {x y} hxy => klt_deed hxy
    · intro x hx y hy
      rw [List.mem_map] at hx
      obtain ⟨d, hd, rfl⟩ := hx
      unfold keysF at hy
      rw [List.mem_map] at hy
      obtain ⟨e, he, rfl⟩ := hy
      obtain ⟨b, hb, d2, hd2, rfl⟩ := mem_ent he
      exact klt_hand (h1.1 b.1 (List.mem_map.mpr ⟨b, hb, rfl⟩))
theorem GoodF.kasc {F : Fo} {k : Nat} (g : GoodF F k) : (keysF F).Pairwise fun a b => klt a b = true := keys_asc g.asc fun h hh => (g.as h hh).asc
theorem GoodF.kl {F : Fo} {k : Nat} (g : GoodF F k) : (keysF F).length ≤ 9 := by unfold keysF; rw [List.length_map]; exact g.entl
theorem GoodF.sml {F : Fo} {k : Nat} (g : GoodF F k) {x : Str × Str} (h : x ∈ keysF F) : NmOk x.1 ∧ NmOk x.2 := by
  unfold keysF at h
  rw [List.mem_map] at h
  obtain ⟨e, he, rfl⟩ := h
  obtain ⟨a, ha, d, hd, rfl⟩ := mem_ent he
  exact ⟨g.nm a ha, ((g.as a ha).ok d hd).2.1⟩
/-- pairs of things in a row -/
def prs {α : Type} : List α → List (α × α)
  | [] => []
  | a :: t => t.map (fun b => (a, b)) ++ prs t
theorem filter_after {a : Str × Str} : ∀ {t : List (Str × Str)}, (∀ b ∈ t, klt a b = true) → t.filter (klt a) = t
  | [], _ => rfl
  | b :: t, h => by rw [List.filter_cons, h b List.mem_cons_self, if_pos rfl, filter_after fun c hc => h c (List.mem_cons_of_mem _ hc)]
theorem filter_ahead {a : Str × Str} : ∀ {t : List (Str × Str)}, (∀ b ∈ t, klt b a = true ∨ b = a) → t.filter (klt a) = []
  | [], _ => rfl
  | b :: t, h => by
    have e : klt a b = false := by
      rcases h b List.mem_cons_self with h | h
      · exact klt_asymm h
      · rw [h]; exact klt_irrefl a
    rw [List.filter_cons, e, if_neg Bool.false_ne_true, filter_ahead fun c hc => h c (List.mem_cons_of_mem _ hc)]
theorem prs_of : ∀ (t d : List (Str × Str)), (d ++ t).Pairwise (fun a b => klt a b = true) → (t.flatMap fun a => ((d ++ t).filter (klt a)).map fun b => (a, b)) = prs t
  | [], _, _ => rfl
  | a :: t, d, h => by
    have h' : ((d ++ [a]) ++ t).Pairwise (fun a b => klt a b = true) := by simpa using h
    have ih := prs_of t (d ++ [a]) h'
    rw [List.append_assoc] at ih
    rw [List.flatMap_cons, prs]
    have ih' : (t.flatMap fun b => ((d ++ a :: t).filter (klt b)).map fun c => (b, c)) = prs t := ih
    rw [ih']
    congr 1
    rw [List.pairwise_append] at h
    obtain ⟨_, h2, h3⟩ := h
    rw [List.pairwise_cons] at h2
    rw [List.filter_append, filter_ahead (fun b hb => .inl (h3 b hb a List.mem_cons_self)), List.nil_append, List.filter_cons, klt_irrefl, if_neg Bool.false_ne_true, filter_after h2.1]
theorem lk_ent {F : Fo} {k : Nat} (g : GoodF F k) {e : (Str × Str) × List Int} (h : e ∈ ent F) : lk F e.1 = e.2 := by
  have key : ∀ {L : List ((Str × Str) × List Int)}, (L.map (·.1)).Nodup → e ∈ L → (L.lookup e.1).getD [] = e.2 := by
    intro L
    induction L with
    | nil => intro _ h; cases h
    | cons x L ih =>
      intro nd h
      rw [List.map_cons, List.nodup_cons] at nd
      obtain ⟨x1, x2⟩ := x
      rw [List.lookup_cons]
      rcases List.mem_cons.mp h with h | h
      · subst h
        simp
      · have hne : (e.1 == x1) = false := by
          rw [beq_eq_false_iff_ne]
          intro z
          exact nd.1 (List.mem_map.mpr ⟨e, h, z⟩)
        rw [hne]
        exact ih nd.2 h
  exact key g.nd h
/-! ### what a store's repr needs -/
section
variable {E : It} {cs : List CX} {F : Fo}
theorem nm_len (hE : ∀ e ∈ E, PyData.strOk e.1 = true ∧ e.1.length ≤ 8) {j : Nat} (hj : j < E.length) : NmOk (nm E j) := by
  unfold nm
  rw [List.getElem?_eq_getElem hj]
  exact hE _ (List.getElem_mem hj)
theorem nx_b3 (hE : ∀ e ∈ E, PyData.strOk e.1 = true ∧ e.1.length ≤ 8) : ∀ x : NX, x.ok E.length → x.fine → B3 (100 * (2 * x.dep + 1)) (x.dep + 1) (x.pv E)
  | .lit i, _, h => B3.int (Nat.lt_of_le_of_lt (show i.natAbs ≤ 1000 from h) (by decide +kernel))
  | .item j, h, _ => by
    obtain ⟨h1, h2⟩ := nm_len hE (show j < E.length from h)
    exact (B3L.cons (n := 8) (m := 20) (B3.str (by decide +kernel) (by decide +kernel)) (B3L.cons (n := 8) (B3.str h1 h2) (B3L.nil (n := 0)) (by omega)) (by show 8 + 1 + 20 ≤ 100; omega)).tup (d := 0) (by show 0 + 1 ≤ 0 + 1; omega)
  | .op o a b, ⟨ha, hb⟩, ⟨fa, fb, _⟩ => by
    have h1 := nx_b3 hE a ha fa
    have h2 := nx_b3 hE b hb fb
    have ho : PyData.strOk o.s = true ∧ o.s.length ≤ 8 := by cases o <;> decide +kernel
    refine (B3L.cons (n := 8) (d := a.dep + b.dep + 1) (B3.str ho.1 ho.2) (B3L.cons (h1.mono (Nat.le_refl _) (by omega)) (B3L.cons (h2.mono (Nat.le_refl _) (by omega)) (B3L.nil (n := 0)) (Nat.le_refl _)) (Nat.le_refl _)) ?_).tup ?_
    · show 8 + 1 + (100 * (2 * a.dep + 1) + 1 + (100 * (2 * b.dep + 1) + 1 + 0)) ≤ 100 * (2 * (a.dep + b.dep + 1) + 1)
      omega
    · show a.dep + b.dep + 1 + 1 ≤ a.dep + b.dep + 1 + 1
      omega
theorem cx_b3 (hE : ∀ e ∈ E, PyData.strOk e.1 = true ∧ e.1.length ≤ 8) : ∀ x : CX, x.ok E.length → x.fine → B3 (100 * (2 * x.dep + 1)) (x.dep + 1) (x.pv E)
  | .rel w a b, ⟨ha, hb⟩, ⟨fa, fb⟩ => by
    have h1 := nx_b3 hE a ha fa
    have h2 := nx_b3 hE b hb fb
    have key : ∀ s : Str, PyData.strOk s = true ∧ s.length ≤ 8 → B3 (100 * (2 * (CX.rel w a b).dep + 1)) ((CX.rel w a b).dep + 1) (.tup [.str s, a.pv E, b.pv E]) := fun s ho => by
      refine (B3L.cons (n := 8) (d := a.dep + b.dep + 1) (B3.str ho.1 ho.2) (B3L.cons (h1.mono (Nat.le_refl _) (by omega)) (B3L.cons (h2.mono (Nat.le_refl _) (by omega)) (B3L.nil (n := 0)) (Nat.le_refl _)) (Nat.le_refl _)) ?_).tup ?_
      · show 8 + 1 + (100 * (2 * a.dep + 1) + 1 + (100 * (2 * b.dep + 1) + 1 + 0)) ≤ 100 * (2 * (a.dep + b.dep + 1) + 1)
        omega
      · show a.dep + b.dep + 1 + 1 ≤ a.dep + b.dep + 1 + 1
        omega
    cases w
    · exact key "<" (by decide +kernel)
    · exact key "=" (by decide +kernel)
  | .no c, h, f => by
    have h1 := cx_b3 hE c h f
    refine (B3L.cons (n := 8) (d := c.dep + 1) (B3.str (by decide +kernel) (by decide +kernel)) (B3L.cons h1 (B3L.nil (n := 0)) (Nat.le_refl _)) ?_).tup ?_
    · show 8 + 1 + (100 * (2 * c.dep + 1) + 1 + 0) ≤ 100 * (2 * (c.dep + 1) + 1)
      omega
    · show c.dep + 1 + 1 ≤ c.dep + 1 + 1
      omega
  | .bin w a b, ⟨ha, hb⟩, ⟨fa, fb⟩ => by
    have h1 := cx_b3 hE a ha fa
    have h2 := cx_b3 hE b hb fb
    have key : ∀ s : Str, PyData.strOk s = true ∧ s.length ≤ 8 → B3 (100 * (2 * (CX.bin w a b).dep + 1)) ((CX.bin w a b).dep + 1) (.tup [.str s, a.pv E, b.pv E]) := fun s ho => by
      refine (B3L.cons (n := 8) (d := a.dep + b.dep + 1) (B3.str ho.1 ho.2) (B3L.cons (h1.mono (Nat.le_refl _) (by omega)) (B3L.cons (h2.mono (Nat.le_refl _) (by omega)) (B3L.nil (n := 0)) (Nat.le_refl _)) (Nat.le_refl _)) ?_).tup ?_
      · show 8 + 1 + (100 * (2 * a.dep + 1) + 1 + (100 * (2 * b.dep + 1) + 1 + 0)) ≤ 100 * (2 * (a.dep + b.dep + 1) + 1)
        omega
      · show a.dep + b.dep + 1 + 1 ≤ a.dep + b.dep + 1 + 1
        omega
    cases w
    · exact key "or" (by decide +kernel)
    · exact key "and" (by decide +kernel)
theorem key_b3 {k : Str × Str} (h : NmOk k.1 ∧ NmOk k.2) : B3 18 1 (keyV k) :=
  (B3L.cons (n := 8) (B3.str h.1.1 h.1.2) (B3L.cons (n := 8) (B3.str h.2.1 h.2.2) (B3L.nil (n := 0)) (Nat.le_refl _)) (by omega)).tup (d := 0) (by omega)
theorem acts_b3 {k : Nat} {as : List (Str × List Int)} (h : ActsOk k as) (hk : k ≤ 2) : B3 100 3 (actsV as) := by
  refine B3.tup (n := 20) (d := 2) (fun x hx => ?_) (by rw [List.length_map]; have := h.len; omega)
  rw [List.mem_map] at hx
  obtain ⟨d, hd, rfl⟩ := hx
  obtain ⟨h1, h2, h3⟩ := h.ok d hd
  exact (B3L.cons (n := 8) (B3.str h2.1 h2.2) (B3L.cons (n := 2) (d := 1) (B3.ints (fun x hx => Nat.le_trans (h3 x hx) (by decide)) (by omega) (by omega)) (B3L.nil (n := 0)) (Nat.le_refl _)) (by omega)).tup (by omega)
theorem shop_b3 (hE : ∀ e ∈ E, PyData.strOk e.1 = true ∧ e.1.length ≤ 8) (hl : E.length ≤ 2) (hb : BdE E) (hb2 : ∀ e ∈ E, e.2.1 ≤ 20 ∧ -20 ≤ e.2.2) (hc : RuOk E cs) (gf : GoodF F E.length) : B3 30000 20 (shopV E cs F) := by
  have h1 : B3 100 19 (entV E) := by
    refine (B3.tup (n := 20) (d := 1) (fun x hx => ?_) (by rw [List.length_map]; omega)).mono (Nat.le_refl _) (by omega)
    rw [List.mem_map] at hx
    obtain ⟨e, he, rfl⟩ := hx
    obtain ⟨a, b⟩ := hE e he
    obtain ⟨c, d⟩ := hb e he
    obtain ⟨c2, d2⟩ := hb2 e he
    have i1 : e.2.1.natAbs < 10 ^ 100 := Nat.lt_of_le_of_lt (show e.2.1.natAbs ≤ 20 by omega) (by decide +kernel)
    have i2 : e.2.2.natAbs < 10 ^ 100 := Nat.lt_of_le_of_lt (show e.2.2.natAbs ≤ 20 by omega) (by decide +kernel)
    exact (B3L.cons (n := 8) (B3.str a b) (B3L.cons (n := 0) (B3.int i1) (B3L.cons (n := 0) (B3.int i2) (B3L.nil (n := 0)) (Nat.le_refl _)) (Nat.le_refl _)) (by omega)).tup (d := 0) (by omega)
  have h2 : B3 25000 19 (rulesV E cs) := by
    refine (B3.tup (n := 2100) (d := 11) (fun x hx => ?_) (by rw [List.length_map]; have := hc.1; omega)).mono (Nat.le_refl _) (by omega)
    rw [List.mem_map] at hx
    obtain ⟨c, hcm, rfl⟩ := hx
    obtain ⟨c1, c2, c3⟩ := hc.2 c hcm
    exact (cx_b3 hE c c1 c2).mono (by omega) (by omega)
  have h3 : B3 1000 19 (folkV F) := by
    refine (B3.tup (n := 200) (d := 4) (fun x hx => ?_) (by rw [List.length_map]; have := gf.len; omega)).mono (Nat.le_refl _) (by omega)
    rw [List.mem_map] at hx
    obtain ⟨h, hh, rfl⟩ := hx
    obtain ⟨a, b⟩ := gf.nm h hh
    exact (B3L.cons (n := 8) (B3.str a b) (B3L.cons (acts_b3 (gf.as h hh) hl) (B3L.nil (n := 0)) (Nat.le_refl _)) (by omega)).tup (by omega)
  exact (B3L.cons (h1.mono (Nat.le_refl _) (Nat.le_refl 19)) (B3L.cons (h2.mono (Nat.le_refl _) (by omega)) (B3L.cons (h3.mono (Nat.le_refl _) (by omega)) (B3L.nil (n := 0)) (Nat.le_refl _)) (Nat.le_refl _)) (by omega)).tup (by omega)
end
end K19
namespace K19
open PySem L2 Ev
/-! ### clashes, as the program finds them -/
section
variable {n : Nat} {st : Cel} {Q : Kp PV} {E : It} {cs : List CX} {F : Fo} {xs : List Int} {a b : Str × Str}
def clashIn (E : It) (cs : List CX) (F : Fo) (a b : Str × Str) (xs : List Int) : Bool := !decide (a.1 = b.1) && (good E cs (plus xs (lk F a)) && (good E cs (plus xs (lk F b)) && !good E cs (plus (plus xs (lk F a)) (lk F b))))
def least (E : It) (cs : List CX) (F : Fo) (a b : Str × Str) : Option (List Int) := (goods E cs).find? (clashIn E cs F a b)
def optRow : Option (List Int) → PV
  | none => .non
  | some xs => row xs
@[simp] theorem notN_opt (o : Option (List Int)) : cmpV .notN (optRow o) .non = some o.isSome := by cases o <;> rfl
def prV (p : (Str × Str) × (Str × Str)) : PV := .tup [keyV p.1, keyV p.2]
def clashL (E : It) (cs : List CX) (F : Fo) : List ((Str × Str) × (Str × Str)) := (prs (keysF F)).filter fun p => (least E cs F p.1 p.2).isSome
@[simp] theorem ix_key0 : ixV st (keyV a) (.int 0) = some (.str a.1) := rfl
@[simp] theorem ix_key1 : ixV st (keyV a) (.int 1) = some (.str a.2) := rfl
@[simp] theorem ix_pr0 {p : (Str × Str) × (Str × Str)} : ixV st (prV p) (.int 0) = some (keyV p.1) := rfl
@[simp] theorem ix_pr1 {p : (Str × Str) × (Str × Str)} : ixV st (prV p) (.int 1) = some (keyV p.2) := rfl
theorem goods_ln (h : xs ∈ goods E cs) : xs.length = E.length := by
  unfold goods at h
  rw [fits_len (mem_st.mp (List.mem_filter.mp h).1)]
  unfold rgs
  rw [List.length_map]
theorem goods_gd (h : xs ∈ goods E cs) : good E cs xs = true := (List.mem_filter.mp h).2
theorem goods_sz (S : ShopOk E cs F) : (goods E cs).length < 64 := Nat.lt_of_le_of_lt (List.length_filter_le _ _) S.sm
theorem plus_lk (S : ShopOk E cs F) (ha : a ∈ keysF F) (hx : xs.length = E.length) : (plus xs (lk F a)).length = E.length := by
  rw [plus_len (by rw [lk_len S.f ha, hx]), hx]
abbrev clV (E : It) (cs : List CX) (F : Fo) : PV := o_Clashing (shopV E cs F) (.tup ((keysF F).map keyV)) (.lst (rows (goods E cs)))
theorem cl_init (S : ShopOk E cs F) (q : Q.run (clV E cs F) st) : @R.w _ (P (n + 22) 33 [shopV E cs F] st) Q := by
  apply s_Clashing_init
  simp
  refine all_keys_ok S.f ?_
  simp
  refine good_states_ok S.g S.w S.c ?_
  simp
  exact q
theorem clash_in_ok (S : ShopOk E cs F) (ha : a ∈ keysF F) (hb : b ∈ keysF F) (hx : xs.length = E.length) (q : Q.run (.bl (clashIn E cs F a b xs)) st) : @R.w _ (P (n + 22) 34 [clV E cs F, row xs, keyV a, keyV b] st) Q := by
  have hE := S.g.len
  apply s_Clashing_clash_in; unfold b_Clashing_clash_in
  unfold clashIn at q
  by_cases h : a.1 = b.1
  · simp [h] at q ⊢
    exact q
  · simp [h] at q ⊢
    refine led_ok (n := n + 16) (ks := [a]) S.f (by omega) (by simpa using ha) (by simp) ?_
    simp
    refine is_good_ok (n := n + 1) S.g S.w.bd S.c (plus_lk S ha hx) ?_
    cases h1 : good E cs (plus xs (lk F a)) with
    | false => simp [h1] at q ⊢; exact q
    | true =>
      simp [h1] at q ⊢
      refine led_ok (n := n + 16) (ks := [b]) S.f (by omega) (by simpa using hb) (by simp) ?_
      simp
      refine is_good_ok (n := n + 1) S.g S.w.bd S.c (plus_lk S hb hx) ?_
      cases h2 : good E cs (plus xs (lk F b)) with
      | false => simp [h2] at q ⊢; exact q
      | true =>
        simp [h2] at q ⊢
        refine led_ok (n := n + 16) (ks := [a, b]) S.f (by omega) (by simp [ha, hb]) (by simp) ?_
        simp
        refine is_good_ok (n := n + 1) S.g S.w.bd S.c (plus_lk S hb (plus_lk S ha hx)) ?_
        simp
        exact q
theorem least_state_ok (S : ShopOk E cs F) (ha : a ∈ keysF F) (hb : b ∈ keysF F) (q : Q.run (optRow (least E cs F a b)) st) : @R.w _ (P (n + 23) 35 [clV E cs F, keyV a, keyV b] st) Q := by
  apply s_Clashing_least_state; unfold b_Clashing_least_state
  simp
  refine forL_q (v := row) (qs := goods E cs) ⟨fun r ρ s => s = st ∧ (∃ x, ρ = [.val (clV E cs F), .val (keyV a), .val (keyV b), x]) ∧ (∀ xs ∈ r, xs.length = E.length) ∧ r.find? (clashIn E cs F a b) = least E cs F a b⟩ ⟨rfl, ⟨_, rfl⟩, fun xs hxs => goods_ln hxs, rfl⟩ ?_ ?_
  · rintro xs r ρ s ⟨rfl, ⟨x, rfl⟩, hl, hf⟩
    rw [bodyL_1]
    simp
    refine clash_in_ok S ha hb (hl xs List.mem_cons_self) ?_
    rw [List.find?_cons] at hf
    cases h : clashIn E cs F a b xs with
    | true =>
      rw [h] at hf
      rw [← hf] at q
      simp
      exact q
    | false =>
      rw [h] at hf
      simp
      exact Iv.i ⟨rfl, ⟨_, rfl⟩, fun y hy => hl y (List.mem_cons_of_mem _ hy), hf⟩
  · rintro ρ s ⟨rfl, ⟨x, rfl⟩, hl, hf⟩
    simp
    rw [← hf] at q
    exact q
theorem fm_len {α β : Type} {f : α → List β} {k : Nat} : ∀ {l : List α}, (∀ a ∈ l, (f a).length ≤ k) → (l.flatMap f).length ≤ l.length * k
  | [], _ => by simp
  | a :: l, h => by
    rw [List.flatMap_cons, List.length_append, List.length_cons, Nat.succ_mul]
    have h1 := h a List.mem_cons_self
    have h2 := fm_len (f := f) (l := l) fun b hb => h b (List.mem_cons_of_mem _ hb)
    omega
theorem prs_mem {α : Type} {p : α × α} : ∀ {l : List α}, p ∈ prs l → p.1 ∈ l ∧ p.2 ∈ l
  | [], h => by cases h
  | a :: t, h => by
    rw [prs, List.mem_append, List.mem_map] at h
    rcases h with ⟨b, hb, rfl⟩ | h
    · exact ⟨List.mem_cons_self, List.mem_cons_of_mem _ hb⟩
    · exact ⟨List.mem_cons_of_mem _ (prs_mem h).1, List.mem_cons_of_mem _ (prs_mem h).2⟩
theorem pairs_ok (S : ShopOk E cs F) (q : Q.run (.tup ((clashL E cs F).map prV)) st) : @R.w _ (P (n + 24) 36 [clV E cs F] st) Q := by
  have hkl := S.f.kl
  apply s_Clashing_pairs; unfold b_Clashing_pairs
  simp
  refine forL_q (v := keyV) (qs := keysF F) ⟨fun r ρ s => s = st ∧ ∃ (d : List (Str × Str)) (x : Slot), ρ = [.val (clV E cs F), .own (.lst ((d.flatMap fun a => ((keysF F).filter (klt a)).map fun b => (a, b)).map prV)), x, .emp, .emp] ∧ keysF F = d ++ r⟩ ⟨rfl, [], _, rfl, rfl⟩ ?_ ?_
  · rintro a r ρ s ⟨rfl, d, x, rfl, hd⟩
    have ha : a ∈ keysF F := by rw [hd]; simp
    have hdl : d.length ≤ 8 := by have := congrArg List.length hd; simp at this; omega
    have hl1 : ((d.flatMap fun a => ((keysF F).filter (klt a)).map fun b => (a, b))).length ≤ d.length * 9 := fm_len fun a _ => by rw [List.length_map]; exact Nat.le_trans (List.length_filter_le _ _) hkl
    have hl2 : ((keysF F).filter (klt a)).length ≤ 9 := Nat.le_trans (List.length_filter_le _ _) hkl
    rw [bodyL_1]
    simp
    refine compL_wf (qs := keysF F) (v := keyV) (klt a) (fun b => prV (a, b)) ?_ ?_
    · intro b hb
      apply R.w_is
      rw [w_turn]
      simp [cmp_key (S.f.ks ha) (S.f.ks hb)]
      cases klt a b <;> simp [prV]
    · rw [Kp_run, List.length_map, szOk_of (by omega)]
      simp only [if_true, R.w_ok]
      simp only [Kp_run, lstV_lst, R.of_some, R.w_ok, List.length_map]
      rw [szOk_of (by omega)]
      simp
      refine Iv.i ⟨rfl, d ++ [a], .val (keyV a), ?_, by rw [hd]; simp⟩
      simp [List.flatMap_append, List.map_append]
  · rintro ρ s ⟨rfl, d, x, rfl, hd⟩
    rw [List.append_nil] at hd
    subst hd
    have e := prs_of (keysF F) [] (by simpa using S.f.kasc)
    rw [List.nil_append] at e
    rw [e]
    have hpl : (prs (keysF F)).length ≤ 81 := by
      rw [← e]
      refine Nat.le_trans (fm_len (k := 9) fun a _ => ?_) (by omega)
      rw [List.length_map]
      exact Nat.le_trans (List.length_filter_le _ _) hkl
    simp
    refine compL_wf (qs := prs (keysF F)) (v := prV) (fun p => (least E cs F p.1 p.2).isSome) prV ?_ ?_
    · intro p hp
      obtain ⟨p1, p2⟩ := prs_mem hp
      apply R.w_is
      rw [w_turn]
      simp
      refine least_state_ok S p1 p2 ?_
      cases hh : least E cs F p.1 p.2 <;> simp
    · rw [Kp_run, List.length_map, szOk_of (Nat.le_trans (List.length_filter_le _ _) (by omega))]
      simp
      exact q
theorem clashes_ok (S : ShopOk E cs F) (q : Q.run (.tup ((clashL E cs F).map prV)) st) : @R.w _ (P (n + 25) 15 [shopV E cs F] st) Q := by
  apply s_clashes; unfold b_clashes
  simp
  refine cl_init (n := n + 2) S ?_
  simp
  refine pairs_ok S ?_
  simp
  exact q
theorem clash_of_ok (S : ShopOk E cs F) (ha : a ∈ keysF F) (hb : b ∈ keysF F) (q : Q.run (optRow (least E cs F a b)) st) : @R.w _ (P (n + 25) 14 [shopV E cs F, keyV a, keyV b] st) Q := by
  apply s_clash_of; unfold b_clash_of
  simp
  refine require_keys_l (n := n + 21) (ks := [a, b]) S.f (by simp [ha, hb]) (by simp) ?_
  simp
  refine cl_init (n := n + 2) S ?_
  simp
  refine least_state_ok (n := n + 1) S ha hb ?_
  simp
  exact q
end
end K19
namespace K19
open PySem L2 Ev
/-! ### clashes, as the law finds them -/
section
variable {n : Nat} {st : Cel} {Q : Kp PV} {E : It} {cs : List CX} {F : Fo} {xs : List Int} {a b : Str × Str}
theorem lplus_ok {a b : List Int} (ha : a.length ≤ 1000) (q : Q.run (row (plus a b)) st) : @R.w _ (P (n + 1) 24 [row a, row b] st) Q := by
  unfold row
  apply s__law_plus; unfold b__law_plus
  simp
  rw [comp_zip (· + ·)]
  · have hl : (List.zipWith (· + ·) a b).length ≤ 1000 := by rw [List.length_zipWith]; omega
    simp (disch := omega) [szOk_of]
    exact q
  · intro i j
    apply R.w_is
    rw [w_turn]
    simp
def mkV (e : (Str × Str) × List Int) : PV := .tup [keyV e.1, row e.2]
@[simp] theorem ix_mk0 {e : (Str × Str) × List Int} : ixV st (mkV e) (.int 0) = some (keyV e.1) := rfl
@[simp] theorem ix_mk1 {e : (Str × Str) × List Int} : ixV st (mkV e) (.int 1) = some (row e.2) := rfl
theorem lclash_ok {e f : (Str × Str) × List Int} (S : ShopOk E cs F) (he : e ∈ ent F) (hf : f ∈ ent F) (q : Q.run (optRow (least E cs F e.1 f.1)) st) : @R.w _ (P (n + 22) 29 [shopV E cs F, mkV e, mkV f] st) Q := by
  have hE := S.g.len
  have ke : e.1 ∈ keysF F := List.mem_map.mpr ⟨e, he, rfl⟩
  have kf : f.1 ∈ keysF F := List.mem_map.mpr ⟨f, hf, rfl⟩
  apply s__law_clash; unfold b__law_clash
  by_cases h : e.1.1 = f.1.1
  · have e0 : least E cs F e.1 f.1 = none := by
      unfold least
      rw [List.find?_eq_none]
      intro xs _
      simp [clashIn, h]
    rw [e0] at q
    simp [h]
    exact q
  · simp [h]
    refine spots_ok S.g S.w S.c ?_
    simp
    refine forL_q (v := row) (qs := goods E cs) ⟨fun r ρ s => s = st ∧ (∃ x y z, ρ = [.val (shopV E cs F), .val (mkV e), .val (mkV f), x, y, z]) ∧ (∀ xs ∈ r, xs.length = E.length) ∧ r.find? (clashIn E cs F e.1 f.1) = least E cs F e.1 f.1⟩ ⟨rfl, ⟨_, _, _, rfl⟩, fun xs hxs => goods_ln hxs, rfl⟩ ?_ ?_
    · rintro xs r ρ s ⟨rfl, ⟨x, y, z, rfl⟩, hl, hf'⟩
      have hx := hl xs List.mem_cons_self
      have le := lk_ent S.f he
      have lf := lk_ent S.f hf
      have p1 := plus_lk S ke hx
      have p2 := plus_lk S kf hx
      have p3 := plus_lk S kf p1
      rw [le] at p1
      rw [lf] at p2
      rw [le, lf] at p3
      have ec : clashIn E cs F e.1 f.1 xs = (good E cs (plus xs e.2) && (good E cs (plus xs f.2) && !good E cs (plus (plus xs e.2) f.2))) := by
        unfold clashIn
        rw [le, lf, decide_eq_false h]
        rfl
      rw [List.find?_cons, ec] at hf'
      rw [bodyL_1]
      simp
      refine lplus_ok (n := n + 20) (by omega) ?_
      simp
      refine lplus_ok (n := n + 20) (by omega) ?_
      simp
      refine fine_ok (n := n + 1) S.g S.w.bd S.c p1 ?_
      cases h1 : good E cs (plus xs e.2) with
      | false =>
        rw [h1] at hf'
        simp
        exact Iv.i ⟨rfl, ⟨_, _, _, rfl⟩, fun y hy => hl y (List.mem_cons_of_mem _ hy), hf'⟩
      | true =>
        rw [h1] at hf'
        simp
        refine fine_ok (n := n + 1) S.g S.w.bd S.c p2 ?_
        cases h2 : good E cs (plus xs f.2) with
        | false =>
          rw [h2] at hf'
          simp
          exact Iv.i ⟨rfl, ⟨_, _, _, rfl⟩, fun y hy => hl y (List.mem_cons_of_mem _ hy), hf'⟩
        | true =>
          rw [h2] at hf'
          simp
          refine lplus_ok (n := n + 20) (by omega) ?_
          simp
          refine fine_ok (n := n + 1) S.g S.w.bd S.c p3 ?_
          cases h3 : good E cs (plus (plus xs e.2) f.2) with
          | true =>
            rw [h3] at hf'
            simp
            exact Iv.i ⟨rfl, ⟨_, _, _, rfl⟩, fun y hy => hl y (List.mem_cons_of_mem _ hy), hf'⟩
          | false =>
            rw [h3] at hf'
            have hf2 : some xs = least E cs F e.1 f.1 := hf'
            rw [← hf2] at q
            simp
            exact q
    · rintro ρ s ⟨rfl, ⟨x, y, z, rfl⟩, hl, hf'⟩
      rw [← hf'] at q
      simp
      exact q
theorem marks_ok' (gf : GoodF F k) (q : Q.run (.lst ((ent F).map mkV)) st) : @R.w _ (P (n + 1) 25 [shopV E cs F] st) Q := marks_ok gf q
theorem cut_at {xs : List PV} {i : Nat} : cutP xs (some (((i : Nat) : Int) + 1)) none = xs.drop (i + 1) := by
  unfold cutP
  rw [show ((i : Nat) : Int) + 1 = ((i + 1 : Nat) : Int) from rfl, HT.sIx_nat, HT.sIx_none]
  by_cases h : i + 1 ≤ xs.length
  · rw [Nat.min_eq_left h, List.take_of_length_le (by simp)]
  · rw [Nat.min_eq_right (by omega), List.drop_length, List.drop_of_length_le (by omega)]
    simp
/-- things of a row, each with its place -/
def enm {α : Type} (i : Nat) : List α → List (Nat × α)
  | [] => []
  | x :: xs => (i, x) :: enm (i + 1) xs
theorem enumP_map {α : Type} (v : α → PV) : ∀ (i : Nat) (xs : List α), enumP i (xs.map v) = (enm i xs).map fun p => .tup [.int (p.1 : Nat), v p.2]
  | _, [] => rfl
  | i, x :: xs => by rw [List.map_cons, enumP, enumP_map v (i + 1) xs]; rfl
def lawPrs (E : It) (cs : List CX) (F : Fo) : List ((Str × Str) × List Int) → List ((Str × Str) × (Str × Str))
  | [] => []
  | e :: t => ((t.filter fun f => (least E cs F e.1 f.1).isSome).map fun f => (e.1, f.1)) ++ lawPrs E cs F t
theorem lawPrs_eq : ∀ L : List ((Str × Str) × List Int), lawPrs E cs F L = (prs (L.map (·.1))).filter fun p => (least E cs F p.1 p.2).isSome
  | [] => rfl
  | e :: t => by
    rw [lawPrs, lawPrs_eq t, List.map_cons, prs, List.filter_append]
    congr 1
    rw [List.map_map, List.filter_map]
    rfl
theorem lawPrs_clash : lawPrs E cs F (ent F) = clashL E cs F := lawPrs_eq _
theorem lawPrs_len : ∀ L : List ((Str × Str) × List Int), (lawPrs E cs F L).length ≤ L.length * L.length
  | [] => by simp [lawPrs]
  | e :: t => by
    rw [lawPrs, List.length_append, List.length_map, List.length_cons, Nat.mul_succ, Nat.succ_mul]
    have h1 := lawPrs_len t
    have h2 := List.length_filter_le (fun f => (least E cs F e.1 f.1).isSome) t
    omega
theorem all_clashes_ok (S : ShopOk E cs F) (q : Q.run (.lst ((clashL E cs F).map prV)) st) : @R.w _ (P (n + 23) 30 [shopV E cs F] st) Q := by
  have hel := S.f.entl
  apply s__law_all_clashes; unfold b__law_all_clashes
  simp
  refine marks_ok' S.f ?_
  simp [enumP_map]
  refine forL_q (v := fun p : Nat × ((Str × Str) × List Int) => .tup [.int (p.1 : Nat), mkV p.2]) (qs := enm 0 (ent F)) ⟨fun r ρ s => s = st ∧ ∃ (d t : List ((Str × Str) × List Int)) (A : List ((Str × Str) × (Str × Str))) (x y : Slot), ent F = d ++ t ∧ r = enm d.length t ∧ ρ = [.val (shopV E cs F), .val (.lst ((ent F).map mkV)), .own (.lst (A.map prV)), x, y, .emp] ∧ A ++ lawPrs E cs F t = clashL E cs F⟩ ⟨rfl, [], ent F, [], _, _, rfl, rfl, rfl, lawPrs_clash⟩ ?_ ?_
  · rintro p r ρ s ⟨rfl, d, t, A, x, y, hd, hr, rfl, hA⟩
    cases t with
    | nil => cases hr
    | cons e t =>
      cases hr
      have he : e ∈ ent F := by rw [hd]; simp
      have ht : ∀ f ∈ t, f ∈ ent F := fun f hf => by rw [hd]; simp [hf]
      have hcl : (clashL E cs F).length ≤ 81 := by
        rw [← lawPrs_clash]
        exact Nat.le_trans (lawPrs_len _) (Nat.mul_le_mul hel hel)
      have hAl : A.length + ((t.filter fun f => (least E cs F e.1 f.1).isSome)).length ≤ 81 := by
        have := congrArg List.length hA
        rw [lawPrs, List.length_append, List.length_append, List.length_map] at this
        omega
      have hdr : ((ent F).map mkV).drop (d.length + 1) = t.map mkV := by
        rw [hd, ← List.map_drop]
        congr 1
        rw [List.drop_append]
        simp
      rw [bodyL_eq (h := assignT_2t 3 4 _ _ _)]
      simp [cut_at, hdr]
      refine compL_wf (qs := t) (v := mkV) (fun f => (least E cs F e.1 f.1).isSome) (fun f => prV (e.1, f.1)) ?_ ?_
      · intro f hf
        apply R.w_is
        rw [w_turn]
        simp
        refine lclash_ok S he (ht f hf) ?_
        cases hh : least E cs F e.1 f.1 <;> simp [prV]
      · rw [Kp_run, List.length_map, szOk_of (by omega)]
        simp only [if_true, R.w_ok]
        simp only [Kp_run, lstV_lst, R.of_some, R.w_ok, List.length_map]
        rw [szOk_of (by omega)]
        simp
        refine Iv.i ⟨rfl, d ++ [e], t, A ++ (t.filter fun f => (least E cs F e.1 f.1).isSome).map (fun f => (e.1, f.1)), .val (.int (d.length : Nat)), .val (mkV e), by rw [hd]; simp, by simp, ?_, ?_⟩
        · simp [List.map_append]
        · rw [← hA, lawPrs, List.append_assoc]
  · rintro ρ s ⟨rfl, d, t, A, x, y, hd, hr, rfl, hA⟩
    cases t with
    | cons e t => cases hr
    | nil =>
      rw [lawPrs, List.append_nil] at hA
      simp
      rw [hA]
      exact q
end
end K19
namespace K19
open PySem L2 Ev
/-! ### the stores that are not drawn -/
section
variable {n : Nat} {st : Cel} {Q : Kp PV} {E : It} {cs : List CX} {F : Fo} {xs : List Int}
theorem actsOk_of {k : Nat} {as : List (Str × List Int)} (h1 : as.length ≤ 3) (h2 : (as.map (·.1)).Pairwise slt) (h3 : ∀ d ∈ as, d.2.length = k ∧ NmOk d.1 ∧ ∀ x ∈ d.2, x.natAbs ≤ 2) : ActsOk k as := ⟨h1, h2, h3⟩
def tillF : Fo := [("ann", [("put", [1]), ("take", [-1])]), ("bob", [("take", [-1])])]
def tillE : It := [("coins", 0, 4)]
def bigE : It := [("coins", 0, 12)]
def wideE : It := [("cards", 0, 5), ("coins", 0, 5)]
def wideF : Fo := [("ann", [("put", [1, 0]), ("take", [0, 1])]), ("bob", [("put", [1, 0])])]
theorem tillF_ok : GoodF tillF 1 := by
  refine ⟨by decide +kernel, by decide +kernel, by decide +kernel, ?_⟩
  intro h hh
  unfold tillF at hh
  simp at hh
  rcases hh with rfl | rfl <;> exact ⟨by decide +kernel, by decide +kernel, by decide +kernel⟩
theorem wideF_ok : GoodF wideF 2 := by
  refine ⟨by decide +kernel, by decide +kernel, by decide +kernel, ?_⟩
  intro h hh
  unfold wideF at hh
  simp at hh
  rcases hh with rfl | rfl <;> exact ⟨by decide +kernel, by decide +kernel, by decide +kernel⟩
theorem till_shop : ShopOk tillE [] tillF := by
  have w : Wd20 tillE := by unfold Wd20; decide +kernel
  exact ⟨.inl ⟨"coins", 0, 4, rfl, by decide +kernel⟩, w, ⟨by simp, by simp⟩, by simp, tillF_ok, by decide +kernel, goods_ne w, by decide +kernel, by decide +kernel⟩
theorem big_shop : ShopOk bigE [] tillF := by
  have w : Wd20 bigE := by unfold Wd20; decide +kernel
  exact ⟨.inl ⟨"coins", 0, 12, rfl, by decide +kernel⟩, w, ⟨by simp, by simp⟩, by simp, tillF_ok, by decide +kernel, goods_ne w, by decide +kernel, by decide +kernel⟩
theorem wide_shop : ShopOk wideE [] wideF := by
  have w : Wd20 wideE := by unfold Wd20; decide +kernel
  exact ⟨.inr ⟨"cards", 0, 5, "coins", 0, 5, rfl, by decide +kernel, by decide +kernel, by decide +kernel⟩, w, ⟨by simp, by simp⟩, by simp, wideF_ok, by decide +kernel, goods_ne w, by decide +kernel, by decide +kernel⟩
theorem till_ok (q : Q.run (shopV tillE [] tillF) st) : @R.w _ (P (n + 1) 28 [] st) Q := by
  apply s__law_till; unfold b__law_till
  simp
  exact q
theorem big_ok (q : Q.run (shopV bigE [] tillF) st) : @R.w _ (P (n + 1) 19 [] st) Q := by
  apply s__law_big; unfold b__law_big
  simp
  exact q
theorem wide_ok (q : Q.run (shopV wideE [] wideF) st) : @R.w _ (P (n + 1) 18 [] st) Q := by
  apply s__law_wide; unfold b__law_wide
  simp
  exact q
theorem ShopOk.b3 (S : ShopOk E cs F) : B3 30000 20 (shopV E cs F) := by
  have hE := S.g.len
  refine shop_b3 (fun e he => ⟨S.g.names e he, S.nm e he⟩) hE.2 S.w.bd (fun e he => ?_) S.c S.f
  obtain ⟨a, b, c, d⟩ := S.w e he
  exact ⟨by omega, by omega⟩
theorem goods_bd (S : ShopOk E cs F) (h : xs ∈ goods E cs) : ∀ x ∈ xs, x.natAbs ≤ 24 := fits_bd S.w.bd (mem_st.mp (List.mem_filter.mp h).1)
theorem good_b3 (S : ShopOk E cs F) (h : xs ∈ goods E cs) : B3 2 1 (row xs) := by
  have := S.g.len
  have := goods_ln h
  exact B3.ints (fun x hx => Nat.le_trans (goods_bd S h x hx) (by decide)) (by omega) (by omega)
end
end K19
namespace K19
open PySem L2 Ev
section
variable {ns : List Int} {n T : Nat} {st : Cel} {Q : Kp PV} {E : It} {cs : List CX} {F : Fo}
theorem least_b3 (S : ShopOk E cs F) (a b : Str × Str) : B3 2 1 (optRow (least E cs F a b)) := by
  cases e : least E cs F a b with
  | none => exact B3.non
  | some xs => exact good_b3 S (List.mem_of_find?_eq_some e)
theorem pairs_b3 (S : ShopOk E cs F) : B3 4000 3 (.tup ((clashL E cs F).map prV)) := by
  have hl : (clashL E cs F).length ≤ 81 := by
    rw [← lawPrs_clash]
    exact Nat.le_trans (lawPrs_len _) (Nat.mul_le_mul S.f.entl S.f.entl)
  refine B3.tup (n := 40) (d := 2) (fun x hx => ?_) (by rw [List.length_map]; omega)
  rw [List.mem_map] at hx
  obtain ⟨p, hp, rfl⟩ := hx
  obtain ⟨p1, p2⟩ := prs_mem (List.mem_filter.mp hp).1
  exact (B3L.cons (key_b3 (S.f.sml p1)) (B3L.cons (key_b3 (S.f.sml p2)) (B3L.nil (n := 0)) (Nat.le_refl _)) (by omega)).tup (by omega)
theorem agrees_ok (S : ShopOk E cs F) (q : Q.run (.bl true) st) : @R.w _ (P (n + 26) 31 [shopV E cs F] st) Q := by
  obtain ⟨s0, hs0⟩ := reprV_of S.b3 (by omega) (by omega)
  obtain ⟨s1, hs1⟩ := reprV_of (B3.lst (xs := [.tup ((clashL E cs F).map prV), .tup ((clashL E cs F).map prV)]) (n := 4000) (d := 3) (m := 10000) (by simp [pairs_b3 S]) (by simp)) (by omega) (by omega)
  apply s__law_agrees; unfold b__law_agrees
  simp [hs0]
  refine marks_ok' S.f ?_
  simp
  refine clashes_ok S ?_
  simp
  refine clashes_ok S ?_
  simp [hs1]
  refine all_clashes_ok (n := n + 2) S ?_
  simp [bin_rep2, hs1]
  refine forL_q (v := mkV) (qs := ent F) ⟨fun r ρ s => s = st ∧ (∃ x1 x4 x5 x6, ρ = [.val (shopV E cs F), x1, .val (.str s0), .val (.lst ((ent F).map mkV)), x4, x5, x6]) ∧ ∀ e ∈ r, e ∈ ent F⟩ ⟨rfl, ⟨_, _, _, _, rfl⟩, fun _ h => h⟩ ?_ ?_
  · rintro e r ρ s ⟨rfl, ⟨x1, x4, x5, x6, rfl⟩, hr⟩
    have he := hr e List.mem_cons_self
    rw [bodyL_1]
    simp
    refine forL_q (v := mkV) (qs := ent F) ⟨fun r2 ρ s2 => s2 = s ∧ (∃ x4 x5 x6, ρ = [.val (shopV E cs F), .val (mkV e), .val (.str s0), .val (.lst ((ent F).map mkV)), x4, x5, x6]) ∧ ∀ e ∈ r2, e ∈ ent F⟩ ⟨rfl, ⟨_, _, _, rfl⟩, fun _ h => h⟩ ?_ ?_
    · rintro f r2 ρ s2 ⟨rfl, ⟨x4, x5, x6, rfl⟩, hr2⟩
      have hf := hr2 f List.mem_cons_self
      have ke : e.1 ∈ keysF F := List.mem_map.mpr ⟨e, he, rfl⟩
      have kf : f.1 ∈ keysF F := List.mem_map.mpr ⟨f, hf, rfl⟩
      obtain ⟨s3, hs3⟩ := reprV_of (B3.lst (xs := [optRow (least E cs F e.1 f.1), optRow (least E cs F e.1 f.1)]) (n := 2) (d := 1) (m := 6) (by simp [least_b3 S]) (by simp)) (by omega) (by omega)
      rw [bodyL_1]
      simp
      refine lclash_ok (n := n + 3) S he hf ?_
      simp
      refine clash_of_ok S ke kf ?_
      simp
      refine clash_of_ok S ke kf ?_
      simp [hs3]
      exact Iv.i ⟨rfl, ⟨_, _, _, rfl⟩, fun e he => hr2 e (List.mem_cons_of_mem _ he)⟩
    · rintro ρ s2 ⟨rfl, ⟨x4, x5, x6, rfl⟩, hr2⟩
      simp
      exact Iv.i ⟨rfl, ⟨_, _, _, _, rfl⟩, fun e he => hr e (List.mem_cons_of_mem _ he)⟩
  · rintro ρ s ⟨rfl, ⟨x1, x4, x5, x6, rfl⟩, hr⟩
    simp [hs0]
    exact q
theorem least_till : least tillE [] tillF ("bob", "take") ("ann", "take") = some [1] := by decide +kernel
theorem least_wide : least wideE [] wideF ("ann", "put") ("bob", "put") = some [4, 0] := by decide +kernel
theorem law_ok {n : Nat} (hl : ns.length ≤ 63) (q : ∀ st', Q.run (.bl true) st') : @R.w _ (P (n + 27) 32 [.rol (ns.map .int)] []) Q := by
  apply s_law; unfold b_law
  simp
  refine feed hl (by omega) ?_
  simp
  refine till_ok (n := n + 25) ?_
  simp
  refine big_ok (n := n + 25) ?_
  simp
  refine wide_ok (n := n + 25) ?_
  simp
  rw [w_compL_cons, w_turn]
  simp
  refine agrees_ok till_shop ?_
  simp
  rw [w_compL_cons, w_turn]
  simp
  refine agrees_ok big_shop ?_
  simp
  rw [w_compL_cons, w_turn]
  simp
  refine agrees_ok wide_shop ?_
  simp
  rw [w_compL_nil]
  simp
  refine till_ok (n := n + 25) ?_
  simp
  refine clash_of_ok (n := n + 1) (a := ("bob", "take")) (b := ("ann", "take")) till_shop (by decide +kernel) (by decide +kernel) ?_
  rw [least_till]
  have e1 : eqV (optRow (some [1])) (.tup [.int 1]) = some true := (eqV_zt [1] [1]).trans (by simp)
  simp [e1]
  refine wide_ok (n := n + 25) ?_
  simp
  refine clash_of_ok (n := n + 1) (a := ("ann", "put")) (b := ("bob", "put")) wide_shop (by decide +kernel) (by decide +kernel) ?_
  rw [least_wide]
  have e2 : eqV (optRow (some [4, 0])) (.tup [.int 4, .int 0]) = some true := (eqV_zt [4, 0] [4, 0]).trans (by simp)
  have e6 : rng1V (.int 6) = some (.lst (rngP 0 6)) := rng1V_int (by omega) (by omega)
  simp [e2, e6, rngP_eq]
  refine forL_q (v := PV.int) (qs := rgI 0 6) ⟨fun r ρ s => (∃ x, ρ = [.val (.rol (ns.map .int)), .val (.cell 0), x, .emp]) ∧ r.length ≤ 6 ∧ Rd ns (200 * (6 - r.length)) s⟩ ⟨⟨_, rfl⟩, by decide, ⟨0, 0, 0, rfl, by omega, by omega, by omega, by omega⟩⟩ ?_ ?_
  · rintro x r ρ s ⟨⟨x2, rfl⟩, hr, r1⟩
    have hr' : r.length ≤ 5 := by simp at hr; omega
    rw [bodyL_1]
    simp
    refine shop_ok (n := n + 4) r1 (by omega) fun E cs F st2 S r2 => ?_
    simp
    refine agrees_ok S ?_
    simp
    exact Iv.i ⟨⟨_, rfl⟩, by omega, r2.mono (by simp; omega)⟩
  · rintro ρ s ⟨⟨x2, rfl⟩, hr, r1⟩
    simp
    exact q s
theorem plain : ∀ ns : List Int, ns.length ≤ 63 → ∃ st', Ev.Phi ds gs FU 27 32 [.rol (ns.map .int)] [] = .ok (.bl true) st' := by
  intro ns hl
  have h := law_ok (ns := ns) (n := 0) (Q := ⟨fun x _ => x = .bl true⟩) hl fun st' => rfl
  obtain ⟨x, s, e, hx⟩ := R.w_eq h
  have hx : x = .bl true := hx
  subst hx
  unfold P at e
  exact ⟨s, e⟩
end
end K19
open PySem PySem.W PyProof.Rows
set_option maxRecDepth 100000 in
set_option maxHeartbeats 0 in
theorem PySem.Challenge.cw_ownrights_k19_clashes_told_holds : PySem.Challenge.rw_ownrights_k19_clashes_told.Holds := by
  w_on; o_law; k_head; (case hw => w_witness2)
  k_fill
  refine Ev.walkG (l := PySem.Challenge.rw_ownrights_k19_clashes_told) (n := 63) (k := 111) (φ := Ev.Phi K19.ds K19.gs K19.FU 27 32) rfl (by decide) rfl ⟨rfl, by decide, by decide⟩ (fun w h Y => PySem.W.kIn_of Y) ?F K19.plain
  case F =>
    intro w mg fa h KX G hmg base hK hG
    refine Ev.law_is (n := 27) (D := K19.D_law) ?T ?G K19.bind_all K19.okD_all ?bi (by decide) rfl rfl rfl rfl hmg
    case T =>
      refine' K19.told_all KX G ?aC_Clashing ?pg_Clashing ?hd_Clashing ?po_Clashing ?sa_Clashing ?mk_Clashing ?kc_Clashing ?n_Clashing_own_store ?n_Clashing_own_keys ?n_Clashing_places ?a0 ?l0 ?c0 ?k0 ?a1 ?l1 ?c1 ?k1 ?a2 ?l2 ?c2 ?k2 ?a3 ?l3 ?c3 ?k3 ?a4 ?l4 ?c4 ?k4 ?a5 ?l5 ?c5 ?k5 ?a6 ?l6 ?c6 ?k6 ?a7 ?l7 ?c7 ?k7 ?a8 ?l8 ?c8 ?k8 ?a9 ?l9 ?c9 ?k9 ?a10 ?l10 ?c10 ?k10 ?a11 ?l11 ?c11 ?k11 ?a12 ?l12 ?c12 ?k12 ?a13 ?l13 ?c13 ?k13 ?a14 ?l14 ?c14 ?k14 ?a15 ?l15 ?c15 ?k15 ?a16 ?l16 ?c16 ?k16 ?a17 ?l17 ?c17 ?k17 ?a18 ?l18 ?c18 ?k18 ?a19 ?l19 ?c19 ?k19 ?a20 ?l20 ?c20 ?k20 ?a21 ?l21 ?c21 ?k21 ?a22 ?l22 ?c22 ?k22 ?a23 ?l23 ?c23 ?k23 ?a24 ?l24 ?c24 ?k24 ?a25 ?l25 ?c25 ?k25 ?a26 ?l26 ?c26 ?k26 ?a27 ?l27 ?c27 ?k27 ?a28 ?l28 ?c28 ?k28 ?a29 ?l29 ?c29 ?k29 ?a30 ?l30 ?c30 ?k30 ?a31 ?l31 ?c31 ?k31 ?a32 ?l32 ?c32 ?k32 ?a33 ?l33 ?c33 ?k33 ?i33 ?a34 ?l34 ?c34 ?k34 ?i34 ?a35 ?l35 ?c35 ?k35 ?i35 ?a36 ?l36 ?c36 ?k36 ?i36
      (case aC_Clashing => k_is)
      (case pg_Clashing => k_is)
      (case hd_Clashing => k_is)
      (case po_Clashing => k_is)
      (case sa_Clashing => k_is)
      (case mk_Clashing => k_is)
      (case kc_Clashing => k_is)
      (case n_Clashing_own_store => k_is)
      (case n_Clashing_own_keys => k_is)
      (case n_Clashing_places => k_is)
      (case a0 => k_is); (case l0 => k_is); (case c0 => k_is); (case k0 => k_is)
      (case a1 => k_is); (case l1 => k_is); (case c1 => k_is); (case k1 => k_is)
      (case a2 => k_is); (case l2 => k_is); (case c2 => k_is); (case k2 => k_is)
      (case a3 => k_is); (case l3 => k_is); (case c3 => k_is); (case k3 => k_is)
      (case a4 => k_is); (case l4 => k_is); (case c4 => k_is); (case k4 => k_is)
      (case a5 => k_is); (case l5 => k_is); (case c5 => k_is); (case k5 => k_is)
      (case a6 => k_is); (case l6 => k_is); (case c6 => k_is); (case k6 => k_is)
      (case a7 => k_is); (case l7 => k_is); (case c7 => k_is); (case k7 => k_is)
      (case a8 => k_is); (case l8 => k_is); (case c8 => k_is); (case k8 => k_is)
      (case a9 => k_is); (case l9 => k_is); (case c9 => k_is); (case k9 => k_is)
      (case a10 => k_is); (case l10 => k_is); (case c10 => k_is); (case k10 => k_is)
      (case a11 => k_is); (case l11 => k_is); (case c11 => k_is); (case k11 => k_is)
      (case a12 => k_is); (case l12 => k_is); (case c12 => k_is); (case k12 => k_is)
      (case a13 => k_is); (case l13 => k_is); (case c13 => k_is); (case k13 => k_is)
      (case a14 => k_is); (case l14 => k_is); (case c14 => k_is); (case k14 => k_is)
      (case a15 => k_is); (case l15 => k_is); (case c15 => k_is); (case k15 => k_is)
      (case a16 => k_is); (case l16 => k_is); (case c16 => k_is); (case k16 => k_is)
      (case a17 => k_is); (case l17 => k_is); (case c17 => k_is); (case k17 => k_is)
      (case a18 => k_is); (case l18 => k_is); (case c18 => k_is); (case k18 => k_is)
      (case a19 => k_is); (case l19 => k_is); (case c19 => k_is); (case k19 => k_is)
      (case a20 => k_is); (case l20 => k_is); (case c20 => k_is); (case k20 => k_is)
      (case a21 => k_is); (case l21 => k_is); (case c21 => k_is); (case k21 => k_is)
      (case a22 => k_is); (case l22 => k_is); (case c22 => k_is); (case k22 => k_is)
      (case a23 => k_is); (case l23 => k_is); (case c23 => k_is); (case k23 => k_is)
      (case a24 => k_is); (case l24 => k_is); (case c24 => k_is); (case k24 => k_is)
      (case a25 => k_is); (case l25 => k_is); (case c25 => k_is); (case k25 => k_is)
      (case a26 => k_is); (case l26 => k_is); (case c26 => k_is); (case k26 => k_is)
      (case a27 => k_is); (case l27 => k_is); (case c27 => k_is); (case k27 => k_is)
      (case a28 => k_is); (case l28 => k_is); (case c28 => k_is); (case k28 => k_is)
      (case a29 => k_is); (case l29 => k_is); (case c29 => k_is); (case k29 => k_is)
      (case a30 => k_is); (case l30 => k_is); (case c30 => k_is); (case k30 => k_is)
      (case a31 => k_is); (case l31 => k_is); (case c31 => k_is); (case k31 => k_is)
      (case a32 => k_is); (case l32 => k_is); (case c32 => k_is); (case k32 => k_is)
      (case a33 => k_is); (case l33 => k_is); (case c33 => k_is); (case k33 => k_is); (case i33 => k_is)
      (case a34 => k_is); (case l34 => k_is); (case c34 => k_is); (case k34 => k_is); (case i34 => k_is)
      (case a35 => k_is); (case l35 => k_is); (case c35 => k_is); (case k35 => k_is); (case i35 => k_is)
      (case a36 => k_is); (case l36 => k_is); (case c36 => k_is); (case k36 => k_is); (case i36 => k_is)
    case G =>
      exact trivial
    case bi =>
      refine' Ev.bi_of KX G ?z0 ?z1 ?z2 ?z3 ?z4 ?z5 ?z6 ?z7 ?z8 ?z9 ?z10 ?z11 ?z12 ?z13 ?z14 ?z15 ?z16 ?z17 ?z18
      all_goals k_is
