import PyProof.Rows.All
import Wide.All
import OpenK.AllK
import Wide.FinOn
import HandS.ForMost
import HandS.Star
import HandS.TupAny
import HandS.TupMul
import HandS.Zip
import HandS.Walk
import HandS.IsInst
import HandS.Deep
import HandS.WordsExc
import HandS.Style
import HandS.NoneIn
import HandS.Iter
import KE.KUnpackStar
import PySem.Challenge.RW_ownrights_k05_whole_values_and_sums
set_option Elab.async false
set_option linter.all false
set_option maxRecDepth 100000
namespace Ev
open PySem L2
/-- values as trees; a cell is a shared list that changes -/
inductive PV where
  | non | bl (b : Bool) | int (i : Int) | str (s : Str)
  | tup (xs : List PV) | lst (xs : List PV) | rol (xs : List PV)
  | cell (k : Nat) | dct (ks : List Key) (xs : List PV)
mutual
def PV.data : PV → Option PyData
  | .non => some .none
  | .bl b => some (.bool b)
  | .int i => some (.int i)
  | .str s => some (.str s)
  | .tup xs => (PV.dataL xs).map .tuple
  | .lst xs => (PV.dataL xs).map .list
  | .rol _ => none
  | .cell _ => none
  | .dct _ _ => none
def PV.dataL : List PV → Option (List PyData)
  | [] => some []
  | x :: xs => match x.data, PV.dataL xs with
    | some d, some ds => some (d :: ds)
    | _, _ => none
end
abbrev Cel := List PV
inductive Slot where
  | emp | val (v : PV) | own (v : PV)
abbrev En := List Slot
structure EX where
  cls : Nat
  args : List PV
inductive R (α : Type) where
  | ok (a : α) (st : Cel) | exc (e : EX) (st : Cel) | bad
def R.bind {α β : Type} : R α → (α → Cel → R β) → R β
  | .ok a st, f => f a st
  | .exc e st, _ => .exc e st
  | .bad, _ => .bad
@[simp] theorem R.bind_ok {α β : Type} (a : α) (st : Cel) (f : α → Cel → R β) : (R.ok a st).bind f = f a st := rfl
@[simp] theorem R.bind_exc {α β : Type} (e : EX) (st : Cel) (f : α → Cel → R β) : (R.exc e st : R α).bind f = .exc e st := rfl
@[simp] theorem R.bind_bad {α β : Type} (f : α → Cel → R β) : (R.bad : R α).bind f = .bad := rfl
/-- a callee's end: an exception is not carried yet -/
def R.noexc {α : Type} : R α → R α
  | .ok a st => .ok a st
  | _ => .bad
@[simp] theorem R.noexc_ok {α : Type} (a : α) (st : Cel) : (R.ok a st).noexc = .ok a st := rfl
@[simp] theorem R.noexc_bad {α : Type} : (R.bad : R α).noexc = .bad := rfl
def R.of {α : Type} (o : Option α) (st : Cel) : R α := match o with
  | some a => .ok a st
  | none => .bad
@[simp] theorem R.of_some {α : Type} (a : α) (st : Cel) : R.of (some a) st = .ok a st := rfl
@[simp] theorem R.of_none {α : Type} (st : Cel) : R.of (none : Option α) st = .bad := rfl
inductive BOp where | add | sub | mul | fdiv | mod | pow
inductive COp where | lt | le | gt | ge | eq | ne | in_ | nin | isN | notN
inductive Ty where | int | bool | str | tuple | list
mutual
inductive C where
  | var (i : Nat) | bor (i : Nat) | int (i : Int) | str (s : Str) | bl (b : Bool) | non
  | bin (op : BOp) (a b : C) | neg (a : C) | not (a : C) | cmp (op : COp) (a b : C) | and (a b : C) | or (a b : C) | ite (t a b : C)
  | tup (es : Cs) | lst (es : Cs)
  | call (f : Nat) (es : Cs)
  | len (a : C) | toInt (a : C) | tupleOf (a : C) | listOf (a : C) | isa (a : C) (t : Ty) | all (a : C) | indexOf (a b : C)
  | ix (a i : C) | sl (a : C) (lo hi : Cs)
  | comp (elt : C) (tg : List Nat) (it : C) (ifs : Cs) (own : List Nat)
  | rng1 (a : C) | rng2 (a b : C) | zip2 (a b : C)
  | repr (a : C) | dct (kvs : Cs) | dget (a k : C)
inductive Cs where
  | nil | cons (a : C) (r : Cs) | star (a : C) (r : Cs)
end
def szOk (n : Nat) : Bool := decide (n ≤ sizeLine)
def eqD (a b : PV) : Option Bool := match a.data, b.data with
  | some d, some e => if SeqAt.shaped d && SeqAt.shaped e then some (PyData.eqv d e) else none
  | _, _ => none
/-- a text beside a scalar -/
def scalE : PV → PV → Option Bool
  | .str s, .str t => some (decide (s = t))
  | .str _, .int _ => some false
  | .int _, .str _ => some false
  | .str _, .bl _ => some false
  | .bl _, .str _ => some false
  | .str _, .non => some false
  | .non, .str _ => some false
  | _, _ => none
def eqV (a b : PV) : Option Bool := match scalE a b with
  | some k => some k
  | none => eqD a b
def binV : BOp → PV → PV → Option PV
  | .add, .int i, .int j => some (.int (i + j))
  | .add, .lst xs, .lst ys => if szOk (xs.length + ys.length) then some (.lst (xs ++ ys)) else none
  | .add, .tup xs, .tup ys => if szOk (xs.length + ys.length) then some (.tup (xs ++ ys)) else none
  | .sub, .int i, .int j => some (.int (i - j))
  | .mul, .int i, .int j => if (-(2 ^ 64) < i && i < 2 ^ 64) || (-(2 ^ 64) < j && j < 2 ^ 64) then some (.int (i * j)) else none
  | .mul, .lst xs, .int k => if -(2 ^ 63) ≤ k && k < 2 ^ 63 && szOk (xs.length * k.toNat) then some (.lst (List.replicate k.toNat xs).flatten) else none
  | .mul, .tup xs, .int k => if 1 ≤ k && k ≤ 1000 && decide (xs.length ≤ 1000) && !xs.isEmpty then some (.tup (List.replicate k.toNat xs).flatten) else none
  | .fdiv, .int i, .int j => if j ≠ 0 ∧ j.natAbs < 1073741824 then some (.int (i.fdiv j)) else none
  | .mod, .int i, .int j => if j ≠ 0 then some (.int (i.fmod j)) else none
  | .pow, .int i, .int j => if 0 ≤ j ∧ j ≤ 1000000 ∧ i.natAbs < 2 ^ 64 then some (.int (i ^ j.toNat)) else none
  | _, _, _ => none
def PV.isNone : PV → Bool
  | .non => true
  | _ => false
def cmpV : COp → PV → PV → Option Bool
  | .lt, .int i, .int j => some (decide (i < j))
  | .le, .int i, .int j => some (decide (i ≤ j))
  | .gt, .int i, .int j => some (decide (j < i))
  | .ge, .int i, .int j => some (decide (j ≤ i))
  | .eq, a, b => eqV a b
  | .ne, a, b => (eqV a b).map (!·)
  | .isN, a, .non => some a.isNone
  | .notN, a, .non => some (!a.isNone)
  | _, _, _ => none
def kP : Key → PV
  | .inl i => .int i
  | .inr x => .str x
def keyP : PV → Option Key
  | .int i => some (.inl i)
  | .str x => some (.inr x)
  | _ => none
def pairsP : List PV → Option (List Key × List PV)
  | [] => some ([], [])
  | k :: v :: r => match keyP k, pairsP r with
    | some k', some q => some (k' :: q.1, v :: q.2)
    | _, _ => none
  | _ => none
/-- a dict's display: no key twice -/
def dctV (xs : List PV) : Option PV := match pairsP xs with
  | some q => if q.1.Nodup ∧ q.1.length ≤ 15 then some (.dct q.1 q.2) else none
  | none => none
def valP : List Key → List PV → Key → Option PV
  | k :: ks, t :: ts, x => if k = x then some t else valP ks ts x
  | _, _, _ => none
def dgetV : PV → PV → Option PV
  | .dct ks ts, k => match keyP k with
    | some k' => valP ks ts k'
    | none => none
  | _, _ => none
/-- repr of a display of data -/
def reprV (a : PV) : Option PV := match a.data with
  | some d => if PyProof.Rows.isDisplay d && d.showable && !d.hasDict && decide (d.depth ≤ 60) && szOk d.shown.length then some (.str d.shown) else none
  | none => none
/-- the first place of an equal item -/
def indexD (d : PyData) : List PyData → Nat → Option Nat
  | [], _ => none
  | z :: zs, i => if PyData.eqv z d then some i else indexD d zs (i + 1)
def indexV (a b : PV) : Option PV := match a.data, b.data with
  | some (.list ds), some d => if SeqAt.shaped (.list ds) && SeqAt.shaped d then (indexD d ds 0).map fun j => .int (j : Nat) else none
  | _, _ => none
def itemsOf : PV → Option (List PV)
  | .lst xs => some xs
  | .tup xs => some xs
  | .rol xs => some xs
  | .dct ks _ => some (ks.map kP)
  | _ => none
def lenV : PV → Option PV
  | .lst xs => some (.int xs.length)
  | .tup xs => some (.int xs.length)
  | .rol xs => some (.int xs.length)
  | .str s => if szOk s.length then some (.int s.length) else none
  | _ => none
def atP (xs : List PV) (i : Int) : Option PV := atI xs i
/-- items and the cells' contents -/
def ixV (st : Cel) : PV → PV → Option PV
  | .lst xs, .int i => atP xs i
  | .tup xs, .int i => atP xs i
  | .rol xs, .int i => atP xs i
  | .cell k, .int i => match st[k]? with
    | some (.lst xs) => atP xs i
    | _ => none
  | _, _ => none
def cutP (xs : List PV) (lo hi : Option Int) : List PV := (xs.drop (HT.sIx xs.length 0 lo)).take (HT.sIx xs.length xs.length hi - HT.sIx xs.length 0 lo)
def slV (a : PV) (lo hi : Option Int) : Option PV := match a with
  | .lst xs => some (.lst (cutP xs lo hi))
  | .rol xs => some (.lst (cutP xs lo hi))
  | .tup xs => some (.tup (cutP xs lo hi))
  | _ => none
def allB : List PV → Option (List Bool)
  | [] => some []
  | .bl b :: r => (allB r).map (b :: ·)
  | _ :: _ => none
def isaV : PV → Ty → Option Bool
  | .non, _ => some false
  | .bl _, .int => some true
  | .bl _, .bool => some true
  | .bl _, _ => some false
  | .int _, .int => some true
  | .int _, _ => some false
  | .str _, .str => some true
  | .str _, _ => some false
  | .tup _, .tuple => some true
  | .tup _, _ => some false
  | .lst _, .list => some true
  | .lst _, _ => some false
  | _, _ => none
def set1 (ρ : En) (i : Nat) (v : PV) : En := ρ.set i (.val v)
/-- one name, or several for a tuple -/
def assignT (tg : List Nat) (v : PV) (ρ : En) : Option En := match tg with
  | [i] => some (set1 ρ i v)
  | is => match v with
    | .lst xs => if xs.length = is.length then some ((is.zip xs).foldl (fun ρ p => set1 ρ p.1 p.2) ρ) else none
    | .tup xs => if xs.length = is.length then some ((is.zip xs).foldl (fun ρ p => set1 ρ p.1 p.2) ρ) else none
    | _ => none
def wipeE (ρ : En) : List Nat → En
  | [] => ρ
  | v :: vs => (wipeE ρ vs).set v .emp
/-- a comprehension's turns: none may raise -/
def compL (f : PV → Cel → R (Option PV)) : List PV → Cel → R (List PV)
  | [], st => .ok [] st
  | x :: xs, st => match f x st with
    | .ok o st1 => (compL f xs st1).bind fun ys st2 => .ok (match o with
      | some y => y :: ys
      | none => ys) st2
    | _ => .bad
def rngP (lo hi : Int) : List PV := (List.range (hi - lo).toNat).map fun k => .int (lo + (k : Nat))
def rOk (i : Int) : Bool := -(2 ^ 62) ≤ i && i < 2 ^ 62
def blV : PV → Option Bool
  | .bl b => some b
  | _ => none
def negV : PV → Option PV
  | .int i => some (.int (-i))
  | _ => none
def notV : PV → Option PV
  | .bl b => some (.bl (!b))
  | _ => none
def toIntV : PV → Option PV
  | .int i => some (.int i)
  | .bl b => some (.int (if b then 1 else 0))
  | _ => none
def tupleV : PV → Option PV
  | .lst xs => some (.tup xs)
  | .tup xs => some (.tup xs)
  | _ => none
def listV : PV → Option PV
  | .lst xs => some (.lst xs)
  | .tup xs => some (.lst xs)
  | _ => none
def allV : PV → Option PV
  | .lst xs => (allB xs).map fun bs => .bl (bs.all id)
  | _ => none
def rng1V : PV → Option PV
  | .int i => if rOk i then some (.lst (rngP 0 i)) else none
  | _ => none
def rng2V : PV → PV → Option PV
  | .int i, .int j => if rOk i && rOk j then some (.lst (rngP i j)) else none
  | _, _ => none
def zipV : PV → PV → Option PV
  | .tup xs, .tup ys => some (.lst ((xs.zip ys).map fun p => .tup [p.1, p.2]))
  | .lst xs, .lst ys => some (.lst ((xs.zip ys).map fun p => .tup [p.1, p.2]))
  | _, _ => none
section
variable (Φ : Nat → List PV → Cel → R PV)
mutual
def ev : C → En → Cel → R PV
  | .var i, ρ, st => match ρ[i]? with
    | some (.val v) => .ok v st
    | _ => .bad
  | .bor i, ρ, st => match ρ[i]? with
    | some (.own v) => .ok v st
    | some (.val v) => .ok v st
    | _ => .bad
  | .int i, _, st => .ok (.int i) st
  | .str s, _, st => .ok (.str s) st
  | .bl b, _, st => .ok (.bl b) st
  | .non, _, st => .ok .non st
  | .bin op a b, ρ, st => (ev a ρ st).bind fun x st => (ev b ρ st).bind fun y st => R.of (binV op x y) st
  | .neg a, ρ, st => (ev a ρ st).bind fun x st => R.of (negV x) st
  | .not a, ρ, st => (ev a ρ st).bind fun x st => R.of (notV x) st
  | .cmp op a b, ρ, st => (ev a ρ st).bind fun x st => (ev b ρ st).bind fun y st => R.of ((cmpV op x y).map .bl) st
  | .and a b, ρ, st => (ev a ρ st).bind fun x st => match x with
    | .bl true => ev b ρ st
    | .bl false => .ok (.bl false) st
    | _ => .bad
  | .or a b, ρ, st => (ev a ρ st).bind fun x st => match x with
    | .bl true => .ok (.bl true) st
    | .bl false => ev b ρ st
    | _ => .bad
  | .ite t a b, ρ, st => (ev t ρ st).bind fun x st => match x with
    | .bl true => ev a ρ st
    | .bl false => ev b ρ st
    | _ => .bad
  | .tup es, ρ, st => (evs es ρ st).bind fun xs st => if szOk xs.length then .ok (.tup xs) st else .bad
  | .lst es, ρ, st => (evs es ρ st).bind fun xs st => if szOk xs.length then .ok (.lst xs) st else .bad
  | .call f es, ρ, st => (evs es ρ st).bind fun xs st => (Φ f xs st).noexc
  | .len a, ρ, st => (ev a ρ st).bind fun x st => R.of (lenV x) st
  | .toInt a, ρ, st => (ev a ρ st).bind fun x st => R.of (toIntV x) st
  | .tupleOf a, ρ, st => (ev a ρ st).bind fun x st => R.of (tupleV x) st
  | .listOf a, ρ, st => (ev a ρ st).bind fun x st => R.of (listV x) st
  | .isa a t, ρ, st => (ev a ρ st).bind fun x st => R.of ((isaV x t).map .bl) st
  | .all a, ρ, st => (ev a ρ st).bind fun x st => R.of (allV x) st
  | .indexOf a b, ρ, st => (ev a ρ st).bind fun x st => match x with
    | .lst xs => (ev b ρ st).bind fun y st => R.of (indexV (.lst xs) y) st
    | _ => .bad
  | .ix a i, ρ, st => (ev a ρ st).bind fun x st => (ev i ρ st).bind fun y st => R.of (ixV st x y) st
  | .sl a lo hi, ρ, st => (ev a ρ st).bind fun x st => (evo lo ρ st).bind fun l st => (evo hi ρ st).bind fun h st => R.of (slV x l h) st
  | .comp elt tg it ifs own, ρ, st => (ev it ρ st).bind fun iv st => match itemsOf iv with
    | some xs => (compL (fun x st => match assignT tg x (wipeE ρ own) with
        | some ρ1 => (evt ifs ρ1 st).bind fun b st => if b then (ev elt ρ1 st).bind fun y st => .ok (some y) st else .ok none st
        | none => .bad) xs st).bind fun ys st => if szOk ys.length then .ok (.lst ys) st else .bad
    | none => .bad
  | .rng1 a, ρ, st => (ev a ρ st).bind fun x st => R.of (rng1V x) st
  | .rng2 a b, ρ, st => (ev a ρ st).bind fun x st => (ev b ρ st).bind fun y st => R.of (rng2V x y) st
  | .zip2 a b, ρ, st => (ev a ρ st).bind fun x st => (ev b ρ st).bind fun y st => R.of (zipV x y) st
  | .repr a, ρ, st => (ev a ρ st).bind fun x st => R.of (reprV x) st
  | .dct kvs, ρ, st => (evs kvs ρ st).bind fun xs st => R.of (dctV xs) st
  | .dget a k, ρ, st => (ev a ρ st).bind fun x st => (ev k ρ st).bind fun y st => R.of (dgetV x y) st
def evs : Cs → En → Cel → R (List PV)
  | .nil, _, st => .ok [] st
  | .cons a r, ρ, st => (ev a ρ st).bind fun x st => (evs r ρ st).bind fun xs st => .ok (x :: xs) st
  | .star a r, ρ, st => (ev a ρ st).bind fun x st => match x with
    | .tup ys => (evs r ρ st).bind fun xs st => .ok (ys ++ xs) st
    | .lst ys => (evs r ρ st).bind fun xs st => .ok (ys ++ xs) st
    | _ => .bad
/-- a slice's part: nothing, or an int -/
def evo : Cs → En → Cel → R (Option Int)
  | .cons a .nil, ρ, st => (ev a ρ st).bind fun x st => match x with
    | .int i => .ok (some i) st
    | _ => .bad
  | .nil, _, st => .ok none st
  | _, _, _ => .bad
/-- a clause's tests: none or one -/
def evt : Cs → En → Cel → R Bool
  | .cons a .nil, ρ, st => (ev a ρ st).bind fun x st => R.of (blV x) st
  | .nil, _, st => .ok true st
  | _, _, _ => .bad
end
end
end Ev
namespace Ev
open PySem L2
mutual
inductive S where
  | asg (tg : List Nat) (e : C) | par (is : List Nat) (es : Cs) | asgO (i : Nat) (e : C) | asgC (i : Nat) (e : C) | setI (a i e : C)
  | app (i : Nat) (e : C) | ext (i : Nat) (e : C)
  | if_ (t : C) (a b : Ss) | for_ (tg : List Nat) (it : C) (b : Ss) | while_ (t : C) (b : Ss)
  | ret (e : C) | expr (e : C) | pass | brk | cnt | frz (i : Nat)
  | ustar (is : List Nat) (j : Nat) (e : C)
inductive Ss where
  | nil | cons (s : S) (r : Ss)
end
inductive RS where
  | nx (ρ : En) (st : Cel) | rt (v : PV) (st : Cel) | bk (ρ : En) (st : Cel) | ct (ρ : En) (st : Cel) | exc (e : EX) (ρ : En) (st : Cel) | bad
def RS.seq : RS → (En → Cel → RS) → RS
  | .nx ρ st, f => f ρ st
  | r, _ => r
@[simp] theorem RS.seq_nx (ρ : En) (st : Cel) (f : En → Cel → RS) : (RS.nx ρ st).seq f = f ρ st := rfl
@[simp] theorem RS.seq_rt (v : PV) (st : Cel) (f : En → Cel → RS) : (RS.rt v st).seq f = .rt v st := rfl
@[simp] theorem RS.seq_bk (ρ : En) (st : Cel) (f : En → Cel → RS) : (RS.bk ρ st).seq f = .bk ρ st := rfl
@[simp] theorem RS.seq_ct (ρ : En) (st : Cel) (f : En → Cel → RS) : (RS.ct ρ st).seq f = .ct ρ st := rfl
@[simp] theorem RS.seq_exc (e : EX) (ρ : En) (st : Cel) (f : En → Cel → RS) : (RS.exc e ρ st).seq f = .exc e ρ st := rfl
@[simp] theorem RS.seq_bad (f : En → Cel → RS) : RS.bad.seq f = .bad := rfl
/-- an expression's end within a statement -/
def R.then {α : Type} (r : R α) (ρ : En) (f : α → Cel → RS) : RS := match r with
  | .ok a st => f a st
  | .exc e st => .exc e ρ st
  | .bad => .bad
@[simp] theorem R.then_ok {α : Type} (a : α) (st : Cel) (ρ : En) (f : α → Cel → RS) : (R.ok a st).then ρ f = f a st := rfl
@[simp] theorem R.then_exc {α : Type} (e : EX) (st : Cel) (ρ : En) (f : α → Cel → RS) : (R.exc e st : R α).then ρ f = .exc e ρ st := rfl
@[simp] theorem R.then_bad {α : Type} (ρ : En) (f : α → Cel → RS) : (R.bad : R α).then ρ f = .bad := rfl
/-- behind a loop's body -/
def nextL (r : RS) (k : En → Cel → RS) : RS := match r with
  | .nx ρ st => k ρ st
  | .ct ρ st => k ρ st
  | .bk ρ st => .nx ρ st
  | .rt v st => .rt v st
  | .exc e ρ st => .exc e ρ st
  | .bad => .bad
@[simp] theorem nextL_nx (ρ : En) (st : Cel) (k : En → Cel → RS) : nextL (.nx ρ st) k = k ρ st := rfl
@[simp] theorem nextL_ct (ρ : En) (st : Cel) (k : En → Cel → RS) : nextL (.ct ρ st) k = k ρ st := rfl
@[simp] theorem nextL_bk (ρ : En) (st : Cel) (k : En → Cel → RS) : nextL (.bk ρ st) k = .nx ρ st := rfl
@[simp] theorem nextL_rt (v : PV) (st : Cel) (k : En → Cel → RS) : nextL (.rt v st) k = .rt v st := rfl
@[simp] theorem nextL_bad (k : En → Cel → RS) : nextL .bad k = .bad := rfl
/-- by a test's answer -/
def ifB (x : PV) (a b : RS) : RS := match x with
  | .bl true => a
  | .bl false => b
  | _ => .bad
@[simp] theorem ifB_bl (c : Bool) (a b : RS) : ifB (.bl c) a b = if c then a else b := by cases c <;> rfl
def forL (f : PV → En → Cel → RS) : List PV → En → Cel → RS
  | [], ρ, st => .nx ρ st
  | x :: xs, ρ, st => nextL (f x ρ st) fun ρ1 st1 => forL f xs ρ1 st1
def whileL (t : En → Cel → R PV) (b : En → Cel → RS) : Nat → En → Cel → RS
  | 0, _, _ => .bad
  | n + 1, ρ, st => (t ρ st).then ρ fun x st => ifB x (nextL (b ρ st) fun ρ1 st1 => whileL t b n ρ1 st1) (.nx ρ st)
def ixP (n : Nat) (i : Int) : Option Nat := ixN n i
section
variable (Φ : Nat → List PV → Cel → R PV) (F : Nat)
mutual
def evS : S → En → Cel → RS
  | .asg tg e, ρ, st => (ev Φ e ρ st).then ρ fun x st => match assignT tg x ρ with
    | some ρ1 => .nx ρ1 st
    | none => .bad
  | .par is es, ρ, st => (evs Φ es ρ st).then ρ fun xs st => if xs.length = is.length then .nx ((is.zip xs).foldl (fun ρ p => set1 ρ p.1 p.2) ρ) st else .bad
  | .asgO i e, ρ, st => (ev Φ e ρ st).then ρ fun x st => match x with
    | .lst xs => .nx (ρ.set i (.own (.lst xs))) st
    | _ => .bad
  | .asgC i e, ρ, st => (ev Φ e ρ st).then ρ fun x st => match x with
    | .lst xs => .nx (ρ.set i (.val (.cell st.length))) (st ++ [.lst xs])
    | _ => .bad
  | .setI a i e, ρ, st => (ev Φ e ρ st).then ρ fun x st => (ev Φ a ρ st).then ρ fun o st => (ev Φ i ρ st).then ρ fun j st => match o, j with
    | .cell k, .int j => (match st[k]? with
      | some (.lst xs) => (match ixP xs.length j with
        | some n => .nx ρ (st.set k (.lst (xs.set n x)))
        | none => .bad)
      | _ => .bad)
    | _, _ => .bad
  | .app i e, ρ, st => match ρ[i]? with
    | some (.own (.lst xs)) => (ev Φ e ρ st).then ρ fun x st => if szOk (xs.length + 1) then .nx (ρ.set i (.own (.lst (xs ++ [x])))) st else .bad
    | _ => .bad
  | .ext i e, ρ, st => match ρ[i]? with
    | some (.own (.lst xs)) => (ev Φ e ρ st).then ρ fun x st => match x with
      | .lst ys => if szOk (xs.length + ys.length) then .nx (ρ.set i (.own (.lst (xs ++ ys)))) st else .bad
      | _ => .bad
    | _ => .bad
  | .if_ t a b, ρ, st => (ev Φ t ρ st).then ρ fun x st => ifB x (evSs a ρ st) (evSs b ρ st)
  | .for_ tg it b, ρ, st => (ev Φ it ρ st).then ρ fun iv st => match itemsOf iv with
    | some xs => forL (fun x ρ st => match assignT tg x ρ with
      | some ρ1 => evSs b ρ1 st
      | none => .bad) xs ρ st
    | none => .bad
  | .while_ t b, ρ, st => whileL (fun ρ st => ev Φ t ρ st) (fun ρ st => evSs b ρ st) F ρ st
  | .ret e, ρ, st => (ev Φ e ρ st).then ρ fun x st => .rt x st
  | .expr e, ρ, st => (ev Φ e ρ st).then ρ fun _ st => .nx ρ st
  | .pass, ρ, st => .nx ρ st
  | .brk, ρ, st => .bk ρ st
  | .cnt, ρ, st => .ct ρ st
  | .frz i, ρ, st => match ρ[i]? with
    | some (.own v) => .nx (ρ.set i (.val v)) st
    | _ => .nx ρ st
  | .ustar is j e, ρ, st => (ev Φ e ρ st).then ρ fun x st => match x with
    | .tup xs => if is.length ≤ xs.length ∧ xs.length ≤ 16384 then .nx (set1 ((is.zip (xs.take is.length)).foldl (fun ρ p => set1 ρ p.1 p.2) ρ) j (.lst (xs.drop is.length))) st else .bad
    | _ => .bad
def evSs : Ss → En → Cel → RS
  | .nil, ρ, st => .nx ρ st
  | .cons s r, ρ, st => (evS s ρ st).seq fun ρ st => evSs r ρ st
end
end
/-- a def: its fixed parameters, whether there is a star one, its slots, its body -/
structure Fn where
  ar : Nat
  star : Bool := false
  n : Nat
  body : Ss
def initE (n : Nat) (args : List PV) : En := args.map .val ++ List.replicate (n - args.length) .emp
def fin : RS → R PV
  | .nx _ st => .ok .non st
  | .rt v st => .ok v st
  | .exc e _ st => .exc e st
  | _ => .bad
def run (Φ : Nat → List PV → Cel → R PV) (F : Nat) (d : Fn) (args : List PV) (st : Cel) : R PV :=
  if d.star then (if d.ar ≤ args.length && szOk (args.length - d.ar) then fin (evSs Φ F d.body (initE d.n (args.take d.ar ++ [.tup (args.drop d.ar)])) st) else .bad)
  else if args.length = d.ar then fin (evSs Φ F d.body (initE d.n args) st) else .bad
end Ev
namespace Ev
open PySem L2
/-- the world: the addresses that stand still, the cells' addresses -/
structure Wd where
  S : Addr → Prop
  cs : List Addr
/-- a list that is read and stands still: tracked, locked or written -/
def RoL (K : PySem.W.Frag) (ω : Wd) (H : Hp) (a : Addr) (vs : List V) : Prop :=
  (ω.S a ∧ H a = some (.lst vs)) ∨ (∃ o, H a = some (.frz o (.lst vs))) ∨
    ∃ (o : Obj) (its : Array Value) (n : Nat), K.lookup a = some o ∧ o.cls = .type "list" ∧ o.dict = none ∧ o.data = .seq its n ∧ its.size ≤ sizeLine ∧ Vals vs its.toList
theorem RoL.sq {K : PySem.W.Frag} {ω : Wd} {H : Hp} {a : Addr} {vs : List V} (h : RoL K ω H a vs) : SqL K H a vs := by
  rcases h with ⟨_, h⟩ | ⟨o, h⟩ | h
  · exact .inl (.inl h)
  · exact .inl (.inr ⟨o, h⟩)
  · exact .inr h
mutual
inductive Rep (K : PySem.W.Frag) (ω : Wd) (H : Hp) : V → PV → Prop
  | non : Rep K ω H .non .non
  | bl (b : Bool) : Rep K ω H (.bl b) (.bl b)
  | int (i : Int) : Rep K ω H (.int i) (.int i)
  | str (s : Str) : Rep K ω H (.str s) (.str s)
  | tup {a : Addr} {vs : List V} {ts : List PV} : SqT K H a vs → RepL K ω H vs ts → Rep K ω H (.ref a) (.tup ts)
  | lst {a : Addr} {vs : List V} {ts : List PV} : ω.S a → H a = some (.lst vs) → RepL K ω H vs ts → Rep K ω H (.ref a) (.lst ts)
  | rol {a : Addr} {vs : List V} {ts : List PV} : RoL K ω H a vs → RepL K ω H vs ts → Rep K ω H (.ref a) (.rol ts)
  | cell {a : Addr} {k : Nat} : ω.cs[k]? = some a → Rep K ω H (.ref a) (.cell k)
  | dct {a : Addr} {o : Obj} {kvs : List (Key × V)} {ts : List PV} : H a = some (.frz o (.dK kvs)) → RepL K ω H (kvs.map (·.2)) ts → Rep K ω H (.ref a) (.dct (kvs.map (·.1)) ts)
inductive RepL (K : PySem.W.Frag) (ω : Wd) (H : Hp) : List V → List PV → Prop
  | nil : RepL K ω H [] []
  | cons {v : V} {vs : List V} {t : PV} {ts : List PV} : Rep K ω H v t → RepL K ω H vs ts → RepL K ω H (v :: vs) (t :: ts)
end
/-- what never changes by itself -/
def Stat : HO → Prop
  | .tup _ => True
  | .frz _ _ => True
  | _ => False
structure Ext (ω : Wd) (H : Hp) (ω' : Wd) (H' : Hp) : Prop where
  sub : ∀ a, ω.S a → ω'.S a
  cs : ∃ more, ω'.cs = ω.cs ++ more
  keep : ∀ a o, H a = some o → (ω.S a ∨ Stat o) → H' a = some o
theorem Ext.refl (ω : Wd) (H : Hp) : Ext ω H ω H := ⟨fun _ h => h, ⟨[], by simp⟩, fun _ _ h _ => h⟩
theorem Ext.trans {ω ω1 ω2 : Wd} {H H1 H2 : Hp} (a : Ext ω H ω1 H1) (b : Ext ω1 H1 ω2 H2) : Ext ω H ω2 H2 := by
  obtain ⟨m1, e1⟩ := a.cs
  obtain ⟨m2, e2⟩ := b.cs
  exact ⟨fun x h => b.sub x (a.sub x h), ⟨m1 ++ m2, by rw [e2, e1, List.append_assoc]⟩, fun x o h s => b.keep x o (a.keep x o h s) (s.elim (fun z => .inl (a.sub x z)) .inr)⟩
section
variable {K : PySem.W.Frag} {ω ω' : Wd} {H H' : Hp}
theorem Ext.sqT (e : Ext ω H ω' H') {a : Addr} {vs : List V} (h : SqT K H a vs) : SqT K H' a vs := by
  rcases h with (h | ⟨o, h⟩) | h
  · exact .inl (.inl (e.keep _ _ h (.inr trivial)))
  · exact .inl (.inr ⟨o, e.keep _ _ h (.inr trivial)⟩)
  · exact .inr h
theorem Ext.roL (e : Ext ω H ω' H') {a : Addr} {vs : List V} (h : RoL K ω H a vs) : RoL K ω' H' a vs := by
  rcases h with ⟨s, h⟩ | ⟨o, h⟩ | h
  · exact .inl ⟨e.sub _ s, e.keep _ _ h (.inl s)⟩
  · exact .inr (.inl ⟨o, e.keep _ _ h (.inr trivial)⟩)
  · exact .inr (.inr h)
theorem prefix_get {α : Type} {xs more : List α} {k : Nat} {a : α} (h : xs[k]? = some a) : (xs ++ more)[k]? = some a := by
  have hk : k < xs.length := by
    rcases Nat.lt_or_ge k xs.length with z | z
    · exact z
    · rw [List.getElem?_eq_none z] at h; cases h
  rw [List.getElem?_append_left hk]; exact h
mutual
theorem Rep.mono (e : Ext ω H ω' H') : ∀ {v : V} {t : PV}, Rep K ω H v t → Rep K ω' H' v t
  | _, _, .non => .non
  | _, _, .bl b => .bl b
  | _, _, .int i => .int i
  | _, _, .str s => .str s
  | _, _, .tup h r => .tup (e.sqT h) (RepL.mono e r)
  | _, _, .lst s h r => .lst (e.sub _ s) (e.keep _ _ h (.inl s)) (RepL.mono e r)
  | _, _, .rol h r => .rol (e.roL h) (RepL.mono e r)
  | _, _, .dct h r => .dct (e.keep _ _ h (.inr trivial)) (RepL.mono e r)
  | _, _, .cell h => .cell (by obtain ⟨m, q⟩ := e.cs; rw [q]; exact prefix_get h)
theorem RepL.mono (e : Ext ω H ω' H') : ∀ {vs : List V} {ts : List PV}, RepL K ω H vs ts → RepL K ω' H' vs ts
  | _, _, .nil => .nil
  | _, _, .cons h r => .cons (Rep.mono e h) (RepL.mono e r)
end
theorem RepL.length : ∀ {vs : List V} {ts : List PV}, RepL K ω H vs ts → vs.length = ts.length
  | _, _, .nil => rfl
  | _, _, .cons _ r => congrArg (· + 1) r.length
theorem RepL.append : ∀ {vs ws : List V} {ts us : List PV}, RepL K ω H vs ts → RepL K ω H ws us → RepL K ω H (vs ++ ws) (ts ++ us)
  | _, _, _, _, .nil, s => s
  | _, _, _, _, .cons h r, s => .cons h (RepL.append r s)
theorem RepL.get : ∀ {vs : List V} {ts : List PV} {i : Nat} {t : PV}, RepL K ω H vs ts → ts[i]? = some t → ∃ v, vs[i]? = some v ∧ Rep K ω H v t
  | _, _, _, _, .nil, h => by simp at h
  | _, _, 0, _, .cons h r, e => by simp at e; subst e; exact ⟨_, rfl, h⟩
  | _, _, i + 1, t, .cons h r, e => by
    obtain ⟨v, a, b⟩ := RepL.get (i := i) (t := t) r (by simpa using e)
    exact ⟨v, by simpa using a, b⟩
theorem RepL.getV : ∀ {vs : List V} {ts : List PV} {i : Nat} {v : V}, RepL K ω H vs ts → vs[i]? = some v → ∃ t, ts[i]? = some t ∧ Rep K ω H v t
  | _, _, _, _, .nil, h => by simp at h
  | _, _, 0, _, .cons h r, e => by simp at e; subst e; exact ⟨_, rfl, h⟩
  | _, _, i + 1, v, .cons h r, e => by
    obtain ⟨t, a, b⟩ := RepL.getV (i := i) (v := v) r (by simpa using e)
    exact ⟨t, by simpa using a, b⟩
theorem RepL.drop : ∀ {vs : List V} {ts : List PV} (n : Nat), RepL K ω H vs ts → RepL K ω H (vs.drop n) (ts.drop n)
  | _, _, 0, r => r
  | _, _, _ + 1, .nil => .nil
  | _, _, n + 1, .cons _ r => RepL.drop n r
theorem RepL.take : ∀ {vs : List V} {ts : List PV} (n : Nat), RepL K ω H vs ts → RepL K ω H (vs.take n) (ts.take n)
  | _, _, 0, _ => .nil
  | _, _, _ + 1, .nil => .nil
  | _, _, n + 1, .cons h r => .cons h (RepL.take n r)
theorem RepL.set {v : V} {t : PV} (h : Rep K ω H v t) : ∀ {vs : List V} {ts : List PV} (n : Nat), RepL K ω H vs ts → RepL K ω H (vs.set n v) (ts.set n t)
  | _, _, _, .nil => .nil
  | _, _, 0, .cons _ r => .cons h r
  | _, _, n + 1, .cons q r => .cons q (RepL.set h n r)
theorem RepL.flat : ∀ (n : Nat) {vs : List V} {ts : List PV}, RepL K ω H vs ts → RepL K ω H (List.replicate n vs).flatten (List.replicate n ts).flatten
  | 0, _, _, _ => .nil
  | n + 1, _, _, r => by
    rw [List.replicate_succ, List.replicate_succ, List.flatten_cons, List.flatten_cons]
    exact r.append (RepL.flat n r)
mutual
theorem Rep.dp : ∀ {t : PV} {v : V} {d : PyData}, Rep K ω H v t → t.data = some d → Dp K H v d
  | .non, _, _, .non, e => by cases e; exact .non
  | .bl _, _, _, .bl b, e => by cases e; exact .bl b
  | .int _, _, _, .int i, e => by cases e; exact .int i
  | .str _, _, _, .str s, e => by cases e; exact .str s
  | .tup ts, _, d, .tup h r, e => by
    unfold PV.data at e
    cases q : PV.dataL ts with
    | none => rw [q] at e; cases e
    | some ds => rw [q] at e; cases e; exact .tup h (RepL.dp r q)
  | .lst ts, _, d, .lst s h r, e => by
    unfold PV.data at e
    cases q : PV.dataL ts with
    | none => rw [q] at e; cases e
    | some ds => rw [q] at e; cases e; exact .lst (.inl (.inl h)) (RepL.dp r q)
  | .rol ts, _, d, _, e => by unfold PV.data at e; cases e
  | .cell k, _, d, _, e => by unfold PV.data at e; cases e
  | .dct _ _, _, d, _, e => by unfold PV.data at e; cases e
theorem RepL.dp : ∀ {ts : List PV} {vs : List V} {ds : List PyData}, RepL K ω H vs ts → PV.dataL ts = some ds → DpAll K H vs ds
  | [], _, _, .nil, e => by cases e; exact .nil
  | t :: ts, _, ds, .cons h r, e => by
    unfold PV.dataL at e
    cases q1 : t.data with
    | none => rw [q1] at e; cases e
    | some d =>
      cases q2 : PV.dataL ts with
      | none => rw [q1, q2] at e; cases e
      | some ds' => rw [q1, q2] at e; cases e; exact .cons (Rep.dp h q1) (RepL.dp r q2)
end
end
/-! ### the state of a def's body -/
/-- at the entry: what stood still, the heap, the cells -/
structure Gh where
  S0 : Addr → Prop
  H0 : Hp
  cs0 : List Addr
structure CelOk (K : PySem.W.Frag) (ω : Wd) (st : Cel) (H : Hp) : Prop where
  len : ω.cs.length = st.length
  nd : ω.cs.Nodup
  out : ∀ a ∈ ω.cs, ¬ ω.S a
  trk : ∀ a, ω.S a → ∃ o, H a = some o
  at_ : ∀ (k : Nat) (a : Addr), ω.cs[k]? = some a → ∃ vs ts, st[k]? = some (PV.lst ts) ∧ H a = some (.lst vs) ∧ RepL K ω H vs ts
/-- a list that a name owns -/
def OwnAt (K : PySem.W.Frag) (ω : Wd) (H : Hp) (a : Addr) (t : PV) : Prop := ∃ vs ts, t = .lst ts ∧ H a = some (.lst vs) ∧ RepL K ω H vs ts
structure Rel (K : PySem.W.Frag) (g : Gh) (ω : Wd) (ρ : En) (st : Cel) (σ : St) (H : Hp) : Prop where
  len : σ.length = ρ.length
  val : ∀ (i : Nat) (t : PV), ρ[i]? = some (Slot.val t) → ∃ v, σ[i]? = some (some v) ∧ Rep K ω H v t
  own : ∀ (i : Nat) (t : PV), ρ[i]? = some (Slot.own t) → ∃ a, σ[i]? = some (some (V.ref a)) ∧ OwnAt K ω H a t ∧ ¬ ω.S a ∧ a ∉ ω.cs ∧ g.H0 a = none
  sep : ∀ (i j : Nat) (t u : PV) (a : Addr), ρ[i]? = some (Slot.own t) → ρ[j]? = some (Slot.own u) → σ[i]? = some (some (V.ref a)) → σ[j]? = some (some (V.ref a)) → i = j
  cells : CelOk K ω st H
  base : ∀ a o, g.H0 a = some o → a ∉ g.cs0 → H a = some o
  sub : ∀ a, g.S0 a → ω.S a
  new : ∀ a, ω.S a → g.S0 a ∨ g.H0 a = none
  csp : ∃ more, ω.cs = g.cs0 ++ more
  csn : ∀ a ∈ ω.cs, a ∈ g.cs0 ∨ g.H0 a = none
  cs0 : ∀ a ∈ g.cs0, ∃ o, g.H0 a = some o
/-- the heap grows: all that was tracked stays; what stands still now stood still or is new -/
structure Grow (ω : Wd) (H : Hp) (ω' : Wd) (H' : Hp) : Prop where
  keep : ∀ a o, H a = some o → H' a = some o
  sub : ∀ a, ω.S a → ω'.S a
  new : ∀ a, ω'.S a → ω.S a ∨ (H a = none ∧ ∃ o, H' a = some o)
  cs : ω'.cs = ω.cs
section
variable {K : PySem.W.Frag} {g : Gh} {ω ω' : Wd} {ρ : En} {st : Cel} {σ : St} {H H' : Hp}
theorem Grow.refl (ω : Wd) (H : Hp) : Grow ω H ω H := ⟨fun _ _ h => h, fun _ h => h, fun _ h => .inl h, rfl⟩
theorem Grow.ext (x : Grow ω H ω' H') : Ext ω H ω' H' := ⟨x.sub, ⟨[], by rw [x.cs]; simp⟩, fun a o h _ => x.keep a o h⟩
theorem Grow.trans {ω2 : Wd} {H2 : Hp} (x : Grow ω H ω' H') (y : Grow ω' H' ω2 H2) : Grow ω H ω2 H2 :=
  ⟨fun a o h => y.keep a o (x.keep a o h), fun a h => y.sub a (x.sub a h), fun a h => (y.new a h).elim (fun z => (x.new a z).imp id fun ⟨z1, o, z2⟩ => ⟨z1, o, y.keep a o z2⟩) (fun z => .inr ⟨(by
    cases q : H a with
    | none => rfl
    | some o =>
      have z1 := z.1
      rw [x.keep a o q] at z1
      cases z1), z.2⟩), y.cs.trans x.cs⟩
theorem CelOk.grow (c : CelOk K ω st H) (x : Grow ω H ω' H') : CelOk K ω' st H' := by
  refine ⟨by rw [x.cs]; exact c.len, by rw [x.cs]; exact c.nd, fun a ha h => ?_, fun a h => ?_, fun k a ha => ?_⟩
  · rw [x.cs] at ha
    rcases x.new a h with z | ⟨z, _⟩
    · exact c.out a ha z
    · obtain ⟨k, hk⟩ := List.getElem?_of_mem ha
      obtain ⟨vs, ts, _, q, _⟩ := c.at_ k a hk
      rw [q] at z; cases z
  · rcases x.new a h with z | ⟨_, z⟩
    · obtain ⟨o, q⟩ := c.trk a z
      exact ⟨o, x.keep a o q⟩
    · exact z
  · rw [x.cs] at ha
    obtain ⟨vs, ts, h1, h2, h3⟩ := c.at_ k a ha
    exact ⟨vs, ts, h1, x.keep _ _ h2, h3.mono x.ext⟩
theorem CelOk.lstAt (c : CelOk K ω st H) {a : Addr} (ha : a ∈ ω.cs) : ∃ vs, H a = some (.lst vs) := by
  obtain ⟨k, hk⟩ := List.getElem?_of_mem ha
  obtain ⟨vs, ts, _, q, _⟩ := c.at_ k a hk
  exact ⟨vs, q⟩
theorem Rel.none0 (r : Rel K g ω ρ st σ H) {a : Addr} (h : H a = none) : g.H0 a = none := by
  cases q : g.H0 a with
  | none => rfl
  | some o =>
    by_cases hc : a ∈ g.cs0
    · obtain ⟨m, e⟩ := r.csp
      obtain ⟨vs, z⟩ := r.cells.lstAt (a := a) (by rw [e]; exact List.mem_append_left _ hc)
      rw [h] at z; cases z
    · rw [r.base a o q hc] at h; cases h
theorem Rel.grow (r : Rel K g ω ρ st σ H) (x : Grow ω H ω' H') : Rel K g ω' ρ st σ H' := by
  refine ⟨r.len, fun i t h => ?_, fun i t h => ?_, r.sep, r.cells.grow x, fun a o h hc => x.keep _ _ (r.base a o h hc), fun a h => x.sub a (r.sub a h), fun a h => ?_, by rw [x.cs]; exact r.csp, by rw [x.cs]; exact r.csn, r.cs0⟩
  · obtain ⟨v, e, q⟩ := r.val i t h
    exact ⟨v, e, q.mono x.ext⟩
  · obtain ⟨a, e, ⟨vs, ts, e1, e2, e3⟩, ns, nc, n0⟩ := r.own i t h
    refine ⟨a, e, ⟨vs, ts, e1, x.keep _ _ e2, e3.mono x.ext⟩, fun z => ?_, by rw [x.cs]; exact nc, n0⟩
    rcases x.new a z with z | ⟨z, _⟩
    · exact ns z
    · rw [e2] at z; cases z
  · rcases x.new a h with z | ⟨z, _⟩
    · exact r.new a z
    · exact .inr (r.none0 z)
/-- a new object -/
def Wd.add (ω : Wd) (p : Addr) : Wd := ⟨fun a => ω.S a ∨ a = p, ω.cs⟩
theorem Grow.upd {p : Addr} {o : HO} (h : H p = none) : Grow ω H ω (upd H p o) := ⟨fun a u e => by rw [upd_ne (ne_of_none e h)]; exact e, fun _ z => z, fun _ z => .inl z, rfl⟩
theorem Grow.add {p : Addr} {o : HO} (h : H p = none) : Grow ω H (ω.add p) (L2.upd H p o) := ⟨fun a u e => by rw [upd_ne (ne_of_none e h)]; exact e, fun _ z => .inl z, fun a z => z.imp id fun e => by rw [e]; exact ⟨h, _, upd_same⟩, rfl⟩
end
end Ev
namespace Ev
open PySem L2
/-- an expression's step: all but the cells stays -/
structure ExtE (ω : Wd) (H : Hp) (ω' : Wd) (H' : Hp) : Prop where
  sub : ∀ a, ω.S a → ω'.S a
  cs : ∃ more, ω'.cs = ω.cs ++ more
  keep : ∀ a o, H a = some o → a ∉ ω.cs → H' a = some o
  newS : ∀ a, ω'.S a → ω.S a ∨ H a = none
  newC : ∀ a ∈ ω'.cs, a ∈ ω.cs ∨ H a = none
  there : ∀ a o, H a = some o → ∃ o', H' a = some o'
section
variable {K : PySem.W.Frag} {g : Gh} {ω ω' ω1 ω2 : Wd} {ρ : En} {st st' : Cel} {σ : St} {H H' H1 H2 : Hp}
theorem ExtE.refl (ω : Wd) (H : Hp) : ExtE ω H ω H := ⟨fun _ h => h, ⟨[], by simp⟩, fun _ _ h _ => h, fun _ h => .inl h, fun _ h => .inl h, fun _ o h => ⟨o, h⟩⟩
theorem ExtE.none (x : ExtE ω H ω1 H1) {a : Addr} (h : H1 a = none) : H a = none := by
  cases q : H a with
  | none => rfl
  | some o =>
    obtain ⟨o', e⟩ := x.there a o q
    rw [h] at e; cases e
theorem ExtE.trans (x : ExtE ω H ω1 H1) (y : ExtE ω1 H1 ω2 H2) : ExtE ω H ω2 H2 := by
  obtain ⟨m1, e1⟩ := x.cs
  obtain ⟨m2, e2⟩ := y.cs
  refine ⟨fun a h => y.sub a (x.sub a h), ⟨m1 ++ m2, by rw [e2, e1, List.append_assoc]⟩, fun a o h n => y.keep a o (x.keep a o h n) fun z => ?_, fun a h => ?_, fun a h => ?_, fun a o h => ?_⟩
  · rcases x.newC a z with z | z
    · exact n z
    · rw [h] at z; cases z
  · rcases y.newS a h with z | z
    · exact x.newS a z
    · exact .inr (x.none z)
  · rcases y.newC a h with z | z
    · exact x.newC a z
    · exact .inr (x.none z)
  · obtain ⟨o1, h1⟩ := x.there a o h
    exact y.there a o1 h1
theorem ExtE.ext (x : ExtE ω H ω' H') (c : CelOk K ω st H) : Ext ω H ω' H' := ⟨x.sub, x.cs, fun a o h s => x.keep a o h fun z => by
  rcases s with s | s
  · exact c.out a z s
  · obtain ⟨vs, q⟩ := c.lstAt z
    rw [h] at q; cases q; exact s⟩
theorem Grow.toE (x : Grow ω H ω' H') : ExtE ω H ω' H' := ⟨x.sub, ⟨[], by rw [x.cs]; simp⟩, fun a o h _ => x.keep a o h, fun a h => (x.new a h).imp id (·.1), fun a h => .inl (by rw [x.cs] at h; exact h), fun a o h => ⟨o, x.keep a o h⟩⟩
theorem Rel.extE (r : Rel K g ω ρ st σ H) (x : ExtE ω H ω' H') (c : CelOk K ω' st' H') : Rel K g ω' ρ st' σ H' := by
  have e := x.ext r.cells
  refine ⟨r.len, fun i t h => ?_, fun i t h => ?_, r.sep, c, fun a o h hc => x.keep _ _ (r.base a o h hc) fun z => ?_, fun a h => x.sub a (r.sub a h), fun a h => ?_, ?_, fun a h => ?_, r.cs0⟩
  · obtain ⟨v, e1, q⟩ := r.val i t h
    exact ⟨v, e1, q.mono e⟩
  · obtain ⟨a, e0, ⟨vs, ts, e1, e2, e3⟩, ns, nc, n0⟩ := r.own i t h
    refine ⟨a, e0, ⟨vs, ts, e1, x.keep _ _ e2 nc, e3.mono e⟩, fun z => ?_, fun z => ?_, n0⟩
    · rcases x.newS a z with z | z
      · exact ns z
      · rw [e2] at z; cases z
    · rcases x.newC a z with z | z
      · exact nc z
      · rw [e2] at z; cases z
  · rcases r.csn a z with z | z
    · exact hc z
    · rw [h] at z; cases z
  · rcases x.newS a h with z | z
    · exact r.new a z
    · exact .inr (r.none0 z)
  · obtain ⟨m1, e1⟩ := r.csp
    obtain ⟨m2, e2⟩ := x.cs
    exact ⟨m1 ++ m2, by rw [e2, e1, List.append_assoc]⟩
  · rcases x.newC a h with z | z
    · exact r.csn a z
    · exact .inr (r.none0 z)
/-- a value; where b, also a list that a name owns, to be read -/
def RepM (K : PySem.W.Frag) (b : Bool) (ω : Wd) (H : Hp) (v : V) (t : PV) : Prop := Rep K ω H v t ∨ (b = true ∧ ∃ a, v = .ref a ∧ OwnAt K ω H a t ∧ a ∉ ω.cs)
theorem RepM.of {b : Bool} {v : V} {t : PV} (h : Rep K ω H v t) : RepM K b ω H v t := .inl h
theorem RepM.rep {v : V} {t : PV} (h : RepM K false ω H v t) : Rep K ω H v t := h.elim id fun z => by simp at z
theorem RepM.extE {b : Bool} {v : V} {t : PV} (h : RepM K b ω H v t) (x : ExtE ω H ω' H') (c : CelOk K ω st H) : RepM K b ω' H' v t := by
  rcases h with h | ⟨hb, a, e, ⟨vs, ts, e1, e2, e3⟩, nc⟩
  · exact .inl (h.mono (x.ext c))
  · refine .inr ⟨hb, a, e, ⟨vs, ts, e1, x.keep _ _ e2 nc, e3.mono (x.ext c)⟩, fun z => ?_⟩
    rcases x.newC a z with z | z
    · exact nc z
    · rw [e2] at z; cases z
end
/-! ### readings -/
abbrev Wx := EX → Gh → Wd → En → Cel → St → Hp → Prop
abbrev RX (α β : Type) := Wd → Hp → β → α → Prop
def postG {α β : Type} (P : RX α β) (K : PySem.W.Frag) (g : Gh) (ω : Wd) (ρ : En) (σ : St) (H : Hp) (W : Wx) (r : R α) (Q : β → Hp → Prop) : Prop := match r with
  | .ok t st' => ∀ x H' ω', ExtE ω H ω' H' → CelOk K ω' st' H' → P ω' H' x t → Q x H'
  | .exc e st' => ∀ H' ω', ExtE ω H ω' H' → CelOk K ω' st' H' → W e g ω' ρ st' σ H'
  | .bad => False
def tG {α β : Type} (P : RX α β) (K : PySem.W.Frag) (W : Wx) (f : En → Cel → R α) : St → Hp → (β → Hp → Prop) → Prop := fun σ H Q => ∃ g ω ρ st, Rel K g ω ρ st σ H ∧ postG P K g ω ρ σ H W (f ρ st) Q
/-- an expression, an argument list, a test, a slice's part -/
abbrev tv (K : PySem.W.Frag) (b : Bool) (W : Wx) (f : En → Cel → R PV) : TE := tG (RepM K b) K W f
abbrev tvs (K : PySem.W.Frag) (W : Wx) (f : En → Cel → R (List PV)) : TA := tG (RepL K) K W f
def RBB : RX Bool Bool := fun _ _ x t => t = x
abbrev tvbb (K : PySem.W.Frag) (W : Wx) (f : En → Cel → R Bool) : TT := tG RBB K W f
def RO : RX (Option Int) (Option Int) := fun _ _ x t => t = x
abbrev tvo (K : PySem.W.Frag) (W : Wx) (f : En → Cel → R (Option Int)) : TO := tG RO K W f
section
variable {K : PySem.W.Frag} {g : Gh} {ω ω' : Wd} {ρ : En} {st st' : Cel} {σ : St} {H H' : Hp} {W : Wx}
theorem postG.ext {α β : Type} {P : RX α β} {r : R α} {Q : β → Hp → Prop} (h : postG P K g ω ρ σ H W r Q) (x : ExtE ω H ω' H') : postG P K g ω' ρ σ H' W r Q := by
  cases r with
  | ok t s => exact fun y H2 ω2 x2 c p => h y H2 ω2 (x.trans x2) c p
  | exc e s => exact fun H2 ω2 x2 c => h H2 ω2 (x.trans x2) c
  | bad => exact h
theorem bindG {α α2 β β2 : Type} {P : RX α β} {P2 : RX α2 β2} {f : En → Cel → R α} {k : α → Cel → R α2} {Q : β2 → Hp → Prop} (r : Rel K g ω ρ st σ H) (h : postG P2 K g ω ρ σ H W ((f ρ st).bind k) Q) :
    tG P K W f σ H (fun x H1 => ∃ ω1 st1 t, ExtE ω H ω1 H1 ∧ Rel K g ω1 ρ st1 σ H1 ∧ P ω1 H1 x t ∧ postG P2 K g ω1 ρ σ H1 W (k t st1) Q) := by
  refine ⟨g, ω, ρ, st, r, ?_⟩
  cases e : f ρ st with
  | ok t s =>
    rw [e] at h
    exact fun x H1 ω1 x1 c p => ⟨ω1, s, t, x1, r.extE x1 c, p, postG.ext h x1⟩
  | exc x s => rw [e] at h; exact h
  | bad => rw [e] at h; exact h
theorem tG.mono {α β : Type} {P : RX α β} {f : En → Cel → R α} {Q Q' : β → Hp → Prop} (h : tG P K W f σ H Q) (i : ∀ x H, Q x H → Q' x H) : tG P K W f σ H Q' := by
  obtain ⟨g, ω, ρ, st, r, h⟩ := h
  refine ⟨g, ω, ρ, st, r, ?_⟩
  cases e : f ρ st with
  | ok t s => rw [e] at h; exact fun x H' ω' y c p => i _ _ (h x H' ω' y c p)
  | exc x s => rw [e] at h; exact h
  | bad => rw [e] at h; exact h
/-- from a plain answer -/
theorem postOk {α β : Type} {P : RX α β} {t : α} {Q : β → Hp → Prop} (r : Rel K g ω ρ st σ H) (h : postG P K g ω ρ σ H W (.ok t st) Q) {x : β} (p : P ω H x t) : Q x H := h x H ω (ExtE.refl ω H) r.cells p
theorem postGrow {α β : Type} {P : RX α β} {t : α} {Q : β → Hp → Prop} (r : Rel K g ω ρ st σ H) (h : postG P K g ω ρ σ H W (.ok t st) Q) (w : Grow ω H ω' H') {x : β} (p : P ω' H' x t) : Q x H' := h x H' ω' w.toE (r.cells.grow w) p
end
theorem wPE {X : Cx} {e : Expr} {t t' : TE} (h : PE X e t) (i : ∀ σ H Q, t' σ H Q → t σ H Q) : PE X e t' := ⟨fun pins s σ H Q I q => h.run pins s σ H Q I (i _ _ _ q)⟩
theorem wPT {X : Cx} {e : Expr} {t t' : TT} (h : PT X e t) (i : ∀ σ H Q, t' σ H Q → t σ H Q) : PT X e t' := ⟨fun pins s σ H Q I q => h.run pins s σ H Q I (i _ _ _ q)⟩
theorem wPA {X : Cx} {e : List Expr} {t t' : TA} (h : PA X e t) (i : ∀ σ H Q, t' σ H Q → t σ H Q) : PA X e t' := ⟨fun pos pins s σ H Q I q => h.run pos pins s σ H Q I (i _ _ _ q)⟩
theorem wPO {X : Cx} {e : Option Expr} {t t' : TO} (h : PO X e t) (i : ∀ σ H Q, t' σ H Q → t σ H Q) : PO X e t' := ⟨fun pins s σ H Q I q => h.run pins s σ H Q I (i _ _ _ q)⟩
theorem wPTs {X : Cx} {e : List Expr} {t t' : TT} (h : PTs X e t) (i : ∀ σ H Q, t' σ H Q → t σ H Q) : PTs X e t' := ⟨fun pins s σ H Q I q => h.run pins s σ H Q I (i _ _ _ q)⟩
/-! ### one operand, two operands: by values -/
def VR1 (K : PySem.W.Frag) (b : Bool) (r : V → Hp → VK → Prop) (v : Cel → PV → Option PV) : Prop := ∀ (st : Cel) (x : V) (t z : PV) (ω : Wd) (H : Hp) (Q : VK), CelOk K ω st H → RepM K b ω H x t → v st t = some z →
  (∀ y H' ω', Grow ω H ω' H' → Rep K ω' H' y z → Q y H') → r x H Q
def VR2 (K : PySem.W.Frag) (b b' : Bool) (r : R2) (v : Cel → PV → PV → Option PV) : Prop := ∀ (st : Cel) (x y : V) (t u z : PV) (ω : Wd) (H : Hp) (Q : VK), CelOk K ω st H → RepM K b ω H x t → RepM K b' ω H y u → v st t u = some z →
  (∀ y H' ω', Grow ω H ω' H' → Rep K ω' H' y z → Q y H') → r x y H Q
section
variable {X : Cx} {W : Wx} {e a b : Expr}
theorem of_post {K : PySem.W.Frag} {g : Gh} {ω : Wd} {ρ : En} {st : Cel} {σ : St} {H : Hp} {o : Option PV} {Q : VK} {b : Bool} (r : Rel K g ω ρ st σ H) (h : postG (RepM K b) K g ω ρ σ H W (R.of o st) Q) :
    ∃ z, o = some z ∧ ∀ y H' ω', Grow ω H ω' H' → Rep K ω' H' y z → Q y H' := by
  cases o with
  | none => exact h.elim
  | some z => exact ⟨z, rfl, fun y H' ω' w p => postGrow r h w (.inl p)⟩
theorem se1 {f : En → Cel → R PV} {r : V → Hp → VK → Prop} {v : Cel → PV → Option PV} {ba bz : Bool} (hpe : ∀ ta, PE X a ta → PE X e (tUn r ta)) (ha : PE X a (tv X.K ba W f)) (hv : VR1 X.K ba r v) :
    PE X e (tv X.K bz W fun ρ st => (f ρ st).bind fun x st => R.of (v st x) st) := by
  refine wPE (hpe _ ha) fun σ H Q ⟨g, ω, ρ, st, rel, h⟩ => (bindG (P := RepM X.K ba) rel h).mono fun x H1 ⟨ω1, st1, t, x1, rel1, p, q⟩ => ?_
  obtain ⟨z, ez, qz⟩ := of_post rel1 q
  exact hv st1 x t z ω1 H1 Q rel1.cells p ez qz
theorem se2 {f f' : En → Cel → R PV} {r : R2} {v : Cel → PV → PV → Option PV} {ba bb bz : Bool} (hpe : ∀ ta tb, PE X a ta → PE X b tb → PE X e (tOp r ta tb)) (ha : PE X a (tv X.K ba W f)) (hb : PE X b (tv X.K bb W f')) (hv : VR2 X.K ba bb r v) :
    PE X e (tv X.K bz W fun ρ st => (f ρ st).bind fun x st => (f' ρ st).bind fun y st => R.of (v st x y) st) := by
  refine wPE (hpe _ _ ha hb) fun σ H Q ⟨g, ω, ρ, st, rel, h⟩ => (bindG (P := RepM X.K ba) rel h).mono fun x H1 ⟨ω1, st1, t, x1, rel1, p, q⟩ => ?_
  refine (bindG (P := RepM X.K bb) (f := f') rel1 q).mono fun y H2 ⟨ω2, st2, u, x2, rel2, p2, q2⟩ => ?_
  obtain ⟨z, ez, qz⟩ := of_post rel2 q2
  exact hv st2 x y t u z ω2 H2 Q rel2.cells (p.extE x2 rel1.cells) p2 ez qz
/-- and, or, a if t else b -/
theorem se_var {i : Nat} {bz : Bool} (h : PE X e (tVar i)) : PE X e (tv X.K bz W fun ρ st => match ρ[i]? with
    | some (Slot.val v) => R.ok v st
    | _ => .bad) := by
  refine wPE h fun σ H Q ⟨g, ω, ρ, st, rel, q⟩ => ?_
  dsimp only at q
  cases e1 : ρ[i]? with
  | none => rw [e1] at q; exact q.elim
  | some s =>
    cases s with
    | emp => rw [e1] at q; exact q.elim
    | own t => rw [e1] at q; exact q.elim
    | val t =>
      rw [e1] at q
      obtain ⟨v, hv, rv⟩ := rel.val i t e1
      exact ⟨v, hv, postOk rel q (.inl rv)⟩
theorem se_bor {i : Nat} (h : PE X e (tVar i)) : PE X e (tv X.K true W fun ρ st => match ρ[i]? with
    | some (Slot.own v) => R.ok v st
    | some (Slot.val v) => R.ok v st
    | _ => .bad) := by
  refine wPE h fun σ H Q ⟨g, ω, ρ, st, rel, q⟩ => ?_
  dsimp only at q
  cases e1 : ρ[i]? with
  | none => rw [e1] at q; exact q.elim
  | some s =>
    cases s with
    | emp => rw [e1] at q; exact q.elim
    | own t =>
      rw [e1] at q
      obtain ⟨a, hv, rv, ns, nc, n0⟩ := rel.own i t e1
      exact ⟨.ref a, hv, postOk rel q (.inr ⟨rfl, a, rfl, rv, nc⟩)⟩
    | val t =>
      rw [e1] at q
      obtain ⟨v, hv, rv⟩ := rel.val i t e1
      exact ⟨v, hv, postOk rel q (.inl rv)⟩
theorem se_c {v : V} {t : PV} {bz : Bool} (hv : ∀ ω H, Rep X.K ω H v t) (h : PE X e (tC v)) : PE X e (tv X.K bz W fun _ st => .ok t st) :=
  wPE h fun σ H Q ⟨g, ω, ρ, st, rel, q⟩ => postOk rel q (.inl (hv ω H))
theorem se_and {f f' : En → Cel → R PV} {bz : Bool} (hpe : ∀ ta tb, PE X a ta → PE X b tb → PE X e (tAndV ta tb)) (ha : PE X a (tv X.K false W f)) (hb : PE X b (tv X.K bz W f')) :
    PE X e (tv X.K bz W fun ρ st => (f ρ st).bind fun x st => match x with
      | .bl true => f' ρ st
      | .bl false => .ok (.bl false) st
      | _ => .bad) := by
  refine wPE (hpe _ _ ha hb) fun σ H Q ⟨g, ω, ρ, st, rel, h⟩ => (bindG (P := RepM X.K false) rel h).mono fun x H1 ⟨ω1, st1, t, x1, rel1, p, q⟩ => ?_
  cases p.rep with
  | bl c =>
    cases c with
    | true => exact ⟨true, rfl, ⟨g, ω1, ρ, st1, rel1, q⟩⟩
    | false => exact ⟨false, rfl, postOk rel1 q (.inl (.bl false))⟩
  | _ => exact q.elim
theorem se_or {f f' : En → Cel → R PV} {bz : Bool} (hpe : ∀ ta tb, PE X a ta → PE X b tb → PE X e (tOrV ta tb)) (ha : PE X a (tv X.K false W f)) (hb : PE X b (tv X.K bz W f')) :
    PE X e (tv X.K bz W fun ρ st => (f ρ st).bind fun x st => match x with
      | .bl true => .ok (.bl true) st
      | .bl false => f' ρ st
      | _ => .bad) := by
  refine wPE (hpe _ _ ha hb) fun σ H Q ⟨g, ω, ρ, st, rel, h⟩ => (bindG (P := RepM X.K false) rel h).mono fun x H1 ⟨ω1, st1, t, x1, rel1, p, q⟩ => ?_
  cases p.rep with
  | bl c =>
    cases c with
    | true => exact ⟨true, rfl, postOk rel1 q (.inl (.bl true))⟩
    | false => exact ⟨false, rfl, ⟨g, ω1, ρ, st1, rel1, q⟩⟩
  | _ => exact q.elim
/-- a test's answer -/
def asB (f : En → Cel → R PV) : En → Cel → R Bool := fun ρ st => (f ρ st).bind fun x st => R.of (blV x) st
theorem R.bind_asB {α : Type} (r : R PV) (k1 k2 : Cel → R α) : r.bind (fun x st => match x with
    | .bl true => k1 st
    | .bl false => k2 st
    | _ => .bad) = (r.bind fun x st => R.of (blV x) st).bind fun b st => if b then k1 st else k2 st := by
  cases r with
  | ok x st => cases x <;> try rfl
               rename_i b; cases b <;> rfl
  | exc e st => rfl
  | bad => rfl
theorem se_ite {c : Expr} {ft f f' : En → Cel → R PV} {bz : Bool} (hpe : ∀ tt ta tb, PT X c tt → PE X a ta → PE X b tb → PE X e (tIf tt ta tb)) (hc : PT X c (tvbb X.K W (asB ft))) (ha : PE X a (tv X.K bz W f)) (hb : PE X b (tv X.K bz W f')) :
    PE X e (tv X.K bz W fun ρ st => (ft ρ st).bind fun x st => match x with
      | .bl true => f ρ st
      | .bl false => f' ρ st
      | _ => .bad) := by
  refine wPE (hpe _ _ _ hc ha hb) fun σ H Q ⟨g, ω, ρ, st, rel, h⟩ => ?_
  dsimp only at h
  rw [R.bind_asB (ft ρ st) (fun st => f ρ st) (fun st => f' ρ st)] at h
  refine (bindG (P := RBB) (f := asB ft) rel h).mono fun x H1 ⟨ω1, st1, t, x1, rel1, p, q⟩ => ?_
  cases (show t = x from p)
  cases x with
  | true => exact ⟨g, ω1, ρ, st1, rel1, q⟩
  | false => exact ⟨g, ω1, ρ, st1, rel1, q⟩
/-! ### argument lists -/
theorem sa_nil : PA X [] (tvs X.K W fun _ st => .ok [] st) := wPA pa_nil fun σ H Q ⟨g, ω, ρ, st, rel, q⟩ => postOk rel q .nil
theorem sa_cons {es : List Expr} {f : En → Cel → R PV} {f' : En → Cel → R (List PV)} (hpa : ∀ ta tb, PE X a ta → PA X es tb → PA X (a :: es) (tCons ta tb)) (ha : PE X a (tv X.K false W f)) (hb : PA X es (tvs X.K W f')) :
    PA X (a :: es) (tvs X.K W fun ρ st => (f ρ st).bind fun x st => (f' ρ st).bind fun xs st => .ok (x :: xs) st) := by
  refine wPA (hpa _ _ ha hb) fun σ H Q ⟨g, ω, ρ, st, rel, h⟩ => (bindG (P := RepM X.K false) rel h).mono fun x H1 ⟨ω1, st1, t, x1, rel1, p, q⟩ => ?_
  refine (bindG (P := RepL X.K) (f := f') rel1 q).mono fun y H2 ⟨ω2, st2, u, x2, rel2, p2, q2⟩ => ?_
  exact postOk rel2 q2 (.cons (p.extE x2 rel1.cells).rep p2)
theorem sa_star {es : List Expr} {ae : Expr} {f : En → Cel → R PV} {f' : En → Cel → R (List PV)} (hpa : ∀ ta tb, PE X a ta → PA X es tb → PA X (ae :: es) (StX.tStar X.K ta tb)) (ha : PE X a (tv X.K true W f)) (hb : PA X es (tvs X.K W f')) :
    PA X (ae :: es) (tvs X.K W fun ρ st => (f ρ st).bind fun x st => match x with
      | .tup ys => (f' ρ st).bind fun xs st => .ok (ys ++ xs) st
      | .lst ys => (f' ρ st).bind fun xs st => .ok (ys ++ xs) st
      | _ => .bad) := by
  refine wPA (hpa _ _ ha hb) fun σ H Q ⟨g, ω, ρ, st, rel, h⟩ => (bindG (P := RepM X.K true) rel h).mono fun x H1 ⟨ω1, st1, t, x1, rel1, p, q⟩ => ?_
  rcases p with p | ⟨_, a, e1, ⟨vs, ts, e2, e3, e4⟩, nc⟩
  · cases p with
    | tup hs hr =>
      refine ⟨_, _, rfl, .inl hs, (bindG (P := RepL X.K) (f := f') rel1 q).mono fun y H2 ⟨ω2, st2, u, x2, rel2, p2, q2⟩ => ?_⟩
      exact postOk rel2 q2 ((hr.mono (x2.ext rel1.cells)).append p2)
    | lst hs hh hr =>
      refine ⟨_, _, rfl, .inr (.inl (.inl hh)), (bindG (P := RepL X.K) (f := f') rel1 q).mono fun y H2 ⟨ω2, st2, u, x2, rel2, p2, q2⟩ => ?_⟩
      exact postOk rel2 q2 ((hr.mono (x2.ext rel1.cells)).append p2)
    | _ => exact q.elim
  · subst e1 e2
    refine ⟨_, _, rfl, .inr (.inl (.inl e3)), (bindG (P := RepL X.K) (f := f') rel1 q).mono fun y H2 ⟨ω2, st2, u, x2, rel2, p2, q2⟩ => ?_⟩
    exact postOk rel2 q2 ((e4.mono (x2.ext rel1.cells)).append p2)
theorem szOk_le {n : Nat} (h : szOk n = true) : n ≤ sizeLine := of_decide_eq_true h
theorem se_tup {es : List Expr} {f : En → Cel → R (List PV)} {bz : Bool} (hpe : ∀ ta, PA X es ta → PE X e (tTup ta)) (ha : PA X es (tvs X.K W f)) :
    PE X e (tv X.K bz W fun ρ st => (f ρ st).bind fun xs st => if szOk xs.length then .ok (.tup xs) st else .bad) := by
  refine wPE (hpe _ ha) fun σ H Q ⟨g, ω, ρ, st, rel, h⟩ => (bindG (P := RepL X.K) rel h).mono fun xs H1 ⟨ω1, st1, ts, x1, rel1, p, q⟩ => ?_
  by_cases hz : szOk ts.length = true
  · rw [if_pos hz] at q
    refine ⟨by rw [p.length]; exact szOk_le hz, fun p' hp => ?_⟩
    exact postGrow rel1 q (Grow.upd hp) (.inl (.tup (.inl (.inl upd_same)) (p.mono (Grow.upd hp).ext)))
  · rw [if_neg hz] at q; exact q.elim
end
end Ev
set_option maxHeartbeats 4000000
namespace Ev
open PySem PySem.Spec PyProof.Rows L2
/-! tuple * 1: the tuple itself -/
theorem mul_one_meets (l : Addr) (its : Array Value) (n : Nat) (dd : Option Addr) (sl : Array (Option Value)) (u : Tok) :
    Meets (Builtin.«tuple.__mul__» ⟨[.ref l, .int 1 u], []⟩)
      (fun _ R s => s.heap.get? l = some { cls := .type "tuple", dict := dd, data := .seq its n, slots := sl } ∧ R (.ok (.ret (Value.ref l))) s) :=
  .of_wp fun prog w A R s h => by
    obtain ⟨hp, g, d, tk, os⟩ := s
    obtain ⟨hl, h⟩ := h
    have f1 := AutoSeq1.idx_int
    have c1 : (its.isEmpty || (1 : Int) == 1) = true := by simp
    wp_walk using wpAny_loadPart' hl
    exact ⟨_, rfl, h⟩
def rRepT1 (K : PySem.W.Frag) : R2 := fun x y H Q => ∃ l xs, x = .ref l ∧ y = .int 1 ∧ SqT K H l xs ∧ Q (.ref l) H
theorem op_repT1 {X : Cx} : OpR X (binaryOp .Mult) (rRepT1 X.K) := by
  intro pins s σ H x y v u Q I rx ry ⟨l, xs, ex, ey, hT, q⟩
  subst ex ey
  obtain ⟨t, rfl⟩ := ry
  cases rx
  obtain ⟨its, r, ⟨⟨cls, dd, data, sl⟩, ho, hc, n, hd⟩, hs⟩ := I.tuple hT
  obtain rfl : cls = .type "tuple" := hc
  obtain rfl : data = .seq its.toArray n := hd
  have step : wpAny (model X.prog X.w) X.A (call (.builtin "tuple.__mul__") [.ref l, .int 1 t]) (EP X pins σ Q) X.xe s :=
    call_meets F.slot_tuple_mul ⟨_, ho, rfl⟩ F.entry_tuple_mul (F.args_tuple_mul_2 _ _) (mul_one_meets l its.toArray n dd sl t) ⟨ho, ⟨.ref l, H, I, rfl, q⟩⟩
  refine wpAny_binaryOp_repeat_ref (T := "tuple") (U := "int") (by decide) ⟨_, ho, rfl⟩ (fun s' => typeIs_int s' 1 t) noFill_tuple_mul F.fills_int_mul F.slot_int_rmul repeat_tuple F.slot_int_index.lookup ?_
  exact call_meets F.slot_int_rmul (typeIs_int s 1 t) F.entry_int_rmul (F.args_int_rmul_2 _ _) (int_rmul_tuple 1 t l its.toArray n dd sl) ⟨ho, rfl, ⟨_, ho, rfl⟩, step⟩
end Ev
namespace Ev
open PySem L2
section
variable {K : PySem.W.Frag} {ω : Wd} {H : Hp} {x y : V} {ts us : List PV} {b : Bool}
theorem RepM.lst (h : RepM K b ω H x (.lst ts)) : ∃ a vs, x = .ref a ∧ H a = some (.lst vs) ∧ RepL K ω H vs ts := by
  rcases h with h | ⟨_, a, e, ⟨vs, ts', e1, e2, e3⟩, _⟩
  · cases h with
    | lst s h r => exact ⟨_, _, rfl, h, r⟩
  · cases e1; exact ⟨a, vs, e, e2, e3⟩
theorem RepM.tup (h : RepM K b ω H x (.tup ts)) : ∃ a vs, x = .ref a ∧ SqT K H a vs ∧ RepL K ω H vs ts := by
  rcases h with h | ⟨_, a, e, ⟨vs, ts', e1, e2, e3⟩, _⟩
  · cases h with
    | tup h r => exact ⟨_, _, rfl, h, r⟩
  · cases e1
theorem RepM.rol (h : RepM K b ω H x (.rol ts)) : ∃ a vs, x = .ref a ∧ SqL K H a vs ∧ RepL K ω H vs ts := by
  rcases h with h | ⟨_, a, e, ⟨vs, ts', e1, e2, e3⟩, _⟩
  · cases h with
    | rol h r => exact ⟨_, _, rfl, h.sq, r⟩
  · cases e1
theorem RepM.int {i : Int} (h : RepM K b ω H x (.int i)) : x = .int i := by
  rcases h with h | ⟨_, a, e, ⟨vs, ts', e1, e2, e3⟩, _⟩
  · cases h; rfl
  · cases e1
theorem RepM.bl {i : Bool} (h : RepM K b ω H x (.bl i)) : x = .bl i := by
  rcases h with h | ⟨_, a, e, ⟨vs, ts', e1, e2, e3⟩, _⟩
  · cases h; rfl
  · cases e1
theorem RepM.str {i : Str} (h : RepM K b ω H x (.str i)) : x = .str i := by
  rcases h with h | ⟨_, a, e, ⟨vs, ts', e1, e2, e3⟩, _⟩
  · cases h; rfl
  · cases e1
theorem RepM.cell {k : Nat} (h : RepM K b ω H x (.cell k)) : ∃ a, x = .ref a ∧ ω.cs[k]? = some a := by
  rcases h with h | ⟨_, a, e, ⟨vs, ts', e1, e2, e3⟩, _⟩
  · cases h with
    | cell h => exact ⟨_, rfl, h⟩
  · cases e1
theorem RepM.dp {t : PV} {d : PyData} (h : RepM K b ω H x t) (e : t.data = some d) : Dp K H x d := by
  rcases h with h | ⟨_, a, e0, ⟨vs, ts', e1, e2, e3⟩, _⟩
  · exact h.dp e
  · subst e0 e1
    unfold PV.data at e
    cases q : PV.dataL ts' with
    | none => rw [q] at e; cases e
    | some ds => rw [q] at e; cases e; exact .lst (.inl (.inl e2)) (e3.dp q)
theorem RepL.atI {vs : List V} {i : Int} {t : PV} (r : RepL K ω H vs ts) (h : atI ts i = some t) : ∃ v, atI vs i = some v ∧ Rep K ω H v t := by
  unfold L2.atI at h ⊢
  rw [r.length]
  cases q : ixN ts.length i with
  | none => rw [q] at h; cases h
  | some j => rw [q] at h; exact r.get h
/-- a new list, a new tuple -/
theorem newTup {vs : List V} {Q : VK} (r : RepL K ω H vs ts) (h : ∀ y H' ω', Grow ω H ω' H' → Rep K ω' H' y (.tup ts) → Q y H') : ∀ p, H p = none → Q (.ref p) (upd H p (.tup vs)) :=
  fun p hp => h _ _ ω (Grow.upd hp) (.tup (.inl (.inl upd_same)) (r.mono (Grow.upd hp).ext))
theorem newLst {vs : List V} {Q : VK} (r : RepL K ω H vs ts) (h : ∀ y H' ω', Grow ω H ω' H' → Rep K ω' H' y (.lst ts) → Q y H') : ∀ p, H p = none → Q (.ref p) (upd H p (.lst vs)) :=
  fun p hp => h _ _ (ω.add p) (Grow.add hp) (.lst (.inr rfl) upd_same (r.mono (Grow.add hp).ext))
end
section
variable {K : PySem.W.Frag} {b b' : Bool}
abbrev rAddV (K : PySem.W.Frag) : R2 := fun x y H Q => rI0 (fun i j => .int (i + j)) x y H Q ∨ (rCat x y H Q ∨ rCatA K x y H Q)
abbrev rMulV (K : PySem.W.Frag) : R2 := fun x y H Q => rI CMul (fun i j => .int (i * j)) x y H Q ∨ (rRep x y H Q ∨ (rRepT K x y H Q ∨ rRepT1 K x y H Q))
def rBin (K : PySem.W.Frag) : BOp → R2
  | .add => rAddV K
  | .sub => rI0 fun i j => .int (i - j)
  | .mul => rMulV K
  | .fdiv => rI CDivN fun i j => .int (i.fdiv j)
  | .mod => rI (fun _ j => j ≠ 0) fun i j => .int (i.fmod j)
  | .pow => rI CPow fun i j => .int (i ^ j.toNat)
def opB : BOp → Operator
  | .add => .Add | .sub => .Sub | .mul => .Mult | .fdiv => .FloorDiv | .mod => .Mod | .pow => .Pow
theorem opr_bin {X : Cx} : ∀ op, OpR X (binaryOp (opB op)) (rBin X.K op)
  | .add => op_add.or (op_cat.or op_catA)
  | .sub => op_sub
  | .mul => op_mul.or (op_rep.or (op_repT.or op_repT1))
  | .fdiv => op_fdivN
  | .mod => op_modN
  | .pow => op_pow
theorem vr_bin (op : BOp) : VR2 K b b' (rBin K op) (fun _ => binV op) := by
  intro st x y t u z ω H Q c hx hy hv q
  dsimp only at hv
  unfold binV at hv
  split at hv
  · cases hv
    exact .inl ⟨_, _, hx.int, hy.int, q _ _ ω (Grow.refl ω H) (.int _)⟩
  · rename_i xs ys
    split at hv
    · rename_i hz
      cases hv
      obtain ⟨a, vs, rfl, ha, ra⟩ := hx.lst
      obtain ⟨a', vs', rfl, ha', ra'⟩ := hy.lst
      exact .inr (.inl ⟨a, a', vs, vs', rfl, rfl, ha, ha', by rw [ra.length, ra'.length]; exact szOk_le hz, newLst (ra.append ra') q⟩)
    · cases hv
  · rename_i xs ys
    split at hv
    · rename_i hz
      cases hv
      obtain ⟨a, vs, rfl, ha, ra⟩ := hx.tup
      obtain ⟨a', vs', rfl, ha', ra'⟩ := hy.tup
      refine .inr (.inr ⟨a, a', vs, vs', rfl, rfl, ha, ha', by rw [ra.length, ra'.length]; exact szOk_le hz, fun e => ?_, fun _ e => ?_, fun _ _ => newTup (ra.append ra') q⟩)
      · subst e; cases ra; exact q _ _ ω (Grow.refl ω H) (.tup ha' ra')
      · subst e; cases ra'; rw [List.append_nil] at q; exact q _ _ ω (Grow.refl ω H) (.tup ha ra)
    · cases hv
  · cases hv
    exact ⟨_, _, hx.int, hy.int, q _ _ ω (Grow.refl ω H) (.int _)⟩
  · split at hv
    · rename_i hz
      cases hv
      refine .inl ⟨_, _, hx.int, hy.int, ?_, q _ _ ω (Grow.refl ω H) (.int _)⟩
      simpa [CMul] using hz
    · cases hv
  · rename_i xs k
    split at hv
    · rename_i hz
      cases hv
      obtain ⟨a, vs, rfl, ha, ra⟩ := hx.lst
      simp only [Bool.and_eq_true, decide_eq_true_eq] at hz
      exact .inr (.inl ⟨a, k, vs, rfl, hy.int, ha, hz.1.1, hz.1.2, by rw [ra.length]; exact szOk_le hz.2, newLst (ra.flat _) q⟩)
    · cases hv
  · rename_i xs k
    split at hv
    · rename_i hz
      cases hv
      obtain ⟨a, vs, rfl, ha, ra⟩ := hx.tup
      simp only [Bool.and_eq_true, decide_eq_true_eq, Bool.not_eq_true'] at hz
      by_cases hk : k = 1
      · subst hk
        refine .inr (.inr (.inr ⟨a, vs, rfl, hy.int, ha, q _ _ ω (Grow.refl ω H) (.tup ha ?_)⟩))
        simpa using ra
      · refine .inr (.inr (.inl ⟨a, k, vs, rfl, hy.int, ha, ?_, by have := hz.1.1.1; omega, hz.1.1.2, by rw [ra.length]; exact hz.1.2, newTup (ra.flat _) q⟩))
        rintro rfl
        cases ra
        simp at hz
    · cases hv
  · split at hv
    · rename_i hz
      cases hv
      exact ⟨_, _, hx.int, hy.int, hz, q _ _ ω (Grow.refl ω H) (.int _)⟩
    · cases hv
  · split at hv
    · rename_i hz
      cases hv
      exact ⟨_, _, hx.int, hy.int, hz, q _ _ ω (Grow.refl ω H) (.int _)⟩
    · cases hv
  · split at hv
    · rename_i hz
      cases hv
      exact ⟨_, _, hx.int, hy.int, hz, q _ _ ω (Grow.refl ω H) (.int _)⟩
    · cases hv
  · cases hv
/-! comparisons -/
abbrev rIsN' : R2 := fun x y H Q => y = .non ∧ Q (.bl (decide (x = .non))) H
abbrev rNotN' : R2 := fun x y H Q => y = .non ∧ Q (.bl (!decide (x = .non))) H
def rCmp (K : PySem.W.Frag) : COp → R2
  | .lt => rI0 fun i j => .bl (decide (i < j))
  | .le => rI0 fun i j => .bl (decide (i ≤ j))
  | .gt => rI0 fun i j => .bl (decide (j < i))
  | .ge => rI0 fun i j => .bl (decide (j ≤ i))
  | .eq => fun x y H Q => rEqD K x y H Q ∨ rEq x y H Q
  | .ne => fun x y H Q => rNeD K x y H Q ∨ rNe x y H Q
  | .in_ => fun _ _ _ _ => False
  | .nin => fun _ _ _ _ => False
  | .isN => rIsN'
  | .notN => rNotN'
def opC : COp → CmpOp
  | .lt => .Lt | .le => .LtE | .gt => .Gt | .ge => .GtE | .eq => .Eq | .ne => .NotEq | .in_ => .In | .nin => .NotIn | .isN => .Is | .notN => .IsNot
theorem opr_cmp {X : Cx} (hu : X.A.units + 64 < cLine) : ∀ op, OpR X (compareOp (opC op)) (rCmp X.K op)
  | .lt => op_lt
  | .le => op_le
  | .gt => op_gt
  | .ge => op_ge
  | .eq => (op_eqD hu).or op_eq
  | .ne => (op_neD hu).or op_ne
  | .in_ => fun _ _ _ _ _ _ _ _ _ _ _ _ h => h.elim
  | .nin => fun _ _ _ _ _ _ _ _ _ _ _ _ h => h.elim
  | .isN => op_isN
  | .notN => op_notN
theorem eqD_some {t u : PV} {k : Bool} (h : eqD t u = some k) : ∃ d e, t.data = some d ∧ u.data = some e ∧ SeqAt.shaped d = true ∧ SeqAt.shaped e = true ∧ k = PyData.eqv d e := by
  unfold eqD at h
  split at h
  · rename_i d e hd he
    split at h
    · rename_i hz
      simp only [Bool.and_eq_true] at hz
      exact ⟨d, e, hd, he, hz.1, hz.2, (Option.some.inj h).symm⟩
    · cases h
  · cases h
theorem RepM.isN {ω : Wd} {H : Hp} {x : V} {t : PV} (h : RepM K b ω H x t) : decide (x = .non) = t.isNone := by
  rcases h with h | ⟨_, a, e, ⟨vs, ts', e1, e2, e3⟩, _⟩
  · cases h <;> simp [PV.isNone]
  · subst e e1; simp [PV.isNone]
theorem RepM.non {ω : Wd} {H : Hp} {x : V} (h : RepM K b ω H x .non) : x = .non := by
  rcases h with h | ⟨_, a, e, ⟨vs, ts', e1, e2, e3⟩, _⟩
  · cases h; rfl
  · cases e1
theorem scalE_v {ω : Wd} {H : Hp} {x y : V} {t u : PV} {k : Bool} (hx : RepM K b ω H x t) (hy : RepM K b' ω H y u) (h : scalE t u = some k) : scal x y = true ∧ decide (x = y) = k := by
  unfold scalE at h
  split at h
  · cases h; rw [hx.str, hy.str]; exact ⟨rfl, by simp⟩
  · cases h; rw [hx.str, hy.int]; exact ⟨rfl, by simp⟩
  · cases h; rw [hx.int, hy.str]; exact ⟨rfl, by simp⟩
  · cases h; rw [hx.str, hy.bl]; exact ⟨rfl, by simp⟩
  · cases h; rw [hx.bl, hy.str]; exact ⟨rfl, by simp⟩
  · cases h; rw [hx.str, hy.non]; exact ⟨rfl, by simp⟩
  · cases h; rw [hx.non, hy.str]; exact ⟨rfl, by simp⟩
  · cases h
theorem eqV_way {ω : Wd} {H : Hp} {x y : V} {t u : PV} {k : Bool} (hx : RepM K b ω H x t) (hy : RepM K b' ω H y u) (h : eqV t u = some k) : (∃ d e, Dp K H x d ∧ Dp K H y e ∧ SeqAt.shaped d = true ∧ SeqAt.shaped e = true ∧ k = PyData.eqv d e) ∨ (scal x y = true ∧ decide (x = y) = k) := by
  unfold eqV at h
  cases e : scalE t u with
  | some k' => rw [e] at h; cases h; exact .inr (scalE_v hx hy e)
  | none =>
    rw [e] at h
    obtain ⟨d, d', h1, h2, h3, h4, rfl⟩ := eqD_some h
    exact .inl ⟨d, d', hx.dp h1, hy.dp h2, h3, h4, rfl⟩
theorem vr_cmp (op : COp) : VR2 K b b' (rCmp K op) (fun _ x y => (cmpV op x y).map .bl) := by
  intro st x y t u z ω H Q c hx hy hv q
  dsimp only at hv
  unfold cmpV at hv
  split at hv
  · cases hv; exact ⟨_, _, hx.int, hy.int, q _ _ ω (Grow.refl ω H) (.bl _)⟩
  · cases hv; exact ⟨_, _, hx.int, hy.int, q _ _ ω (Grow.refl ω H) (.bl _)⟩
  · cases hv; exact ⟨_, _, hx.int, hy.int, q _ _ ω (Grow.refl ω H) (.bl _)⟩
  · cases hv; exact ⟨_, _, hx.int, hy.int, q _ _ ω (Grow.refl ω H) (.bl _)⟩
  · cases e : eqV t u with
    | none => rw [e] at hv; cases hv
    | some k =>
      rw [e] at hv
      cases hv
      rcases eqV_way hx hy e with ⟨d, d', h1, h2, h3, h4, rfl⟩ | ⟨h1, rfl⟩
      · exact .inl ⟨d, d', h1, h2, h3, h4, q _ _ ω (Grow.refl ω H) (.bl _)⟩
      · exact .inr ⟨h1, q _ _ ω (Grow.refl ω H) (.bl _)⟩
  · cases e : eqV t u with
    | none => rw [e] at hv; cases hv
    | some k =>
      rw [e] at hv
      cases hv
      rcases eqV_way hx hy e with ⟨d, d', h1, h2, h3, h4, rfl⟩ | ⟨h1, rfl⟩
      · exact .inl ⟨d, d', h1, h2, h3, h4, q _ _ ω (Grow.refl ω H) (.bl _)⟩
      · exact .inr ⟨h1, q _ _ ω (Grow.refl ω H) (.bl _)⟩
  · cases hv
    exact ⟨hy.non, by rw [hx.isN]; exact q _ _ ω (Grow.refl ω H) (.bl _)⟩
  · cases hv
    exact ⟨hy.non, by rw [hx.isN]; exact q _ _ ω (Grow.refl ω H) (.bl _)⟩
  · cases hv
end
end Ev
namespace Ev
open PySem L2
section
variable {K : PySem.W.Frag} {b b' : Bool}
def rC1 (r : List V → Hp → VK → Prop) : V → Hp → VK → Prop := fun x H Q => r [x] H Q
theorem vr_neg : VR1 K b (rU fun i => .int (-i)) (fun _ => negV) := by
  intro st x t z ω H Q c hx hv q
  dsimp only at hv
  unfold negV at hv
  split at hv
  · cases hv; exact ⟨_, hx.int, q _ _ ω (Grow.refl ω H) (.int _)⟩
  · cases hv
/-- len of a list, a tuple, a text -/
abbrev rLenV (K : PySem.W.Frag) : List V → Hp → VK → Prop := fun xs H Q => (∃ p ys, xs = [.ref p] ∧ (SqL K H p ys ∨ SqT K H p ys) ∧ Q (.int ys.length) H) ∨ (∃ z, xs = [.str z] ∧ z.length ≤ sizeLine ∧ Q (.int z.length) H)
theorem CallR.or {X : Cx} {f : Value} {r r' : List V → Hp → VK → Prop} (h : CallR X f r) (h' : CallR X f r') : CallR X f (fun xs H Q => r xs H Q ∨ r' xs H Q) := by
  intro pins s σ H xs us Q I rx q
  rcases q with q | q
  · exact h pins s σ H xs us Q I rx q
  · exact h' pins s σ H xs us Q I rx q
theorem cr_lenV {X : Cx} : CallR X (.builtin "len") (rLenV X.K) := CallR.or call_len_seq call_len_str
theorem vr_len : VR1 K true (rC1 (rLenV K)) (fun _ => lenV) := by
  intro st x t z ω H Q c hx hv q
  dsimp only at hv
  unfold lenV at hv
  split at hv
  · cases hv
    obtain ⟨a, vs, rfl, ha, ra⟩ := hx.lst
    exact .inl ⟨a, vs, rfl, .inl (.inl (.inl ha)), by rw [ra.length]; exact q _ _ ω (Grow.refl ω H) (.int _)⟩
  · cases hv
    obtain ⟨a, vs, rfl, ha, ra⟩ := hx.tup
    exact .inl ⟨a, vs, rfl, .inr ha, by rw [ra.length]; exact q _ _ ω (Grow.refl ω H) (.int _)⟩
  · cases hv
    obtain ⟨a, vs, rfl, ha, ra⟩ := hx.rol
    exact .inl ⟨a, vs, rfl, .inl ha, by rw [ra.length]; exact q _ _ ω (Grow.refl ω H) (.int _)⟩
  · split at hv
    · rename_i hz
      cases hv
      exact .inr ⟨_, by rw [hx.str], szOk_le hz, q _ _ ω (Grow.refl ω H) (.int _)⟩
    · cases hv
  · cases hv
theorem vr_toInt : VR1 K b (rC1 (fun xs H Q => (∃ i, xs = [.int i] ∧ Q (.int i) H) ∨ ∃ k, xs = [.bl k] ∧ Q (.int (if k then 1 else 0)) H)) (fun _ => toIntV) := by
  intro st x t z ω H Q c hx hv q
  dsimp only at hv
  unfold toIntV at hv
  split at hv
  · cases hv; exact .inl ⟨_, by rw [hx.int], q _ _ ω (Grow.refl ω H) (.int _)⟩
  · cases hv; exact .inr ⟨_, by rw [hx.bl], q _ _ ω (Grow.refl ω H) (.int _)⟩
  · cases hv
theorem vr_tupleOf : VR1 K true (rC1 (fun xs H Q => ∃ p ys, xs = [.ref p] ∧ ((SqL K H p ys ∧ ∀ l, H l = none → Q (.ref l) (upd H l (.tup ys))) ∨ (SqT K H p ys ∧ Q (.ref p) H)))) (fun _ => tupleV) := by
  intro st x t z ω H Q c hx hv q
  dsimp only at hv
  unfold tupleV at hv
  split at hv
  · cases hv
    obtain ⟨a, vs, rfl, ha, ra⟩ := hx.lst
    exact ⟨a, vs, rfl, .inl ⟨.inl (.inl ha), newTup ra q⟩⟩
  · cases hv
    obtain ⟨a, vs, rfl, ha, ra⟩ := hx.tup
    exact ⟨a, vs, rfl, .inr ⟨ha, q _ _ ω (Grow.refl ω H) (.tup ha ra)⟩⟩
  · cases hv
theorem allB_some {ω : Wd} {H : Hp} : ∀ {ts : List PV} {vs : List V} {bs : List Bool}, allB ts = some bs → RepL K ω H vs ts → vs = bs.map V.bl
  | [], _, _, h, .nil => by cases h; rfl
  | .bl c :: ts, _, bs, h, .cons r rs => by
    unfold allB at h
    cases e : allB ts with
    | none => rw [e] at h; cases h
    | some bs' =>
      rw [e] at h
      cases h
      cases r
      rw [allB_some e rs]
      rfl
  | .non :: _, _, _, h, _ => by cases h
  | .int _ :: _, _, _, h, _ => by cases h
  | .str _ :: _, _, _, h, _ => by cases h
  | .tup _ :: _, _, _, h, _ => by cases h
  | .lst _ :: _, _, _, h, _ => by cases h
  | .rol _ :: _, _, _, h, _ => by cases h
  | .cell _ :: _, _, _, h, _ => by cases h
  | .dct _ _ :: _, _, _, h, _ => by cases h
theorem vr_all : VR1 K true (rC1 (rAll K)) (fun _ => allV) := by
  intro st x t z ω H Q c hx hv q
  dsimp only at hv
  unfold allV at hv
  split at hv
  · rename_i xs
    obtain ⟨a, vs, rfl, ha, ra⟩ := hx.lst
    cases e : allB xs with
    | none => rw [e] at hv; cases hv
    | some bs =>
      rw [e] at hv
      cases hv
      have e2 := allB_some e ra
      subst e2
      exact ⟨a, bs, rfl, .inl (.inl ha), q _ _ ω (Grow.refl ω H) (.bl _)⟩
  · cases hv
/-! subscripts -/
theorem vr_ix : VR2 K true b' (rIx K) (fun st => ixV st) := by
  intro st x y t u z ω H Q c hx hy hv q
  dsimp only at hv
  unfold ixV at hv
  split at hv
  · obtain ⟨a, vs, rfl, ha, ra⟩ := hx.lst
    obtain ⟨v, e, rv⟩ := ra.atI hv
    exact .inl ⟨a, vs, _, v, rfl, hy.int, .inl (.inl ha), e, q _ _ ω (Grow.refl ω H) rv⟩
  · obtain ⟨a, vs, rfl, ha, ra⟩ := hx.tup
    obtain ⟨v, e, rv⟩ := ra.atI hv
    exact .inr (.inl ⟨a, vs, _, v, rfl, hy.int, ha, e, q _ _ ω (Grow.refl ω H) rv⟩)
  · obtain ⟨a, vs, rfl, ha, ra⟩ := hx.rol
    obtain ⟨v, e, rv⟩ := ra.atI hv
    exact .inl ⟨a, vs, _, v, rfl, hy.int, ha, e, q _ _ ω (Grow.refl ω H) rv⟩
  · rename_i k i
    obtain ⟨a, rfl, ha⟩ := hx.cell
    obtain ⟨vs, ts, h1, h2, ra⟩ := c.at_ k a ha
    rw [h1] at hv
    obtain ⟨v, e, rv⟩ := ra.atI hv
    exact .inl ⟨a, vs, _, v, rfl, hy.int, .inl (.inl h2), e, q _ _ ω (Grow.refl ω H) rv⟩
  · cases hv
theorem cut_len {α β : Type} {xs : List α} {ys : List β} (h : xs.length = ys.length) (lo hi : Option Int) : HT.sIx xs.length 0 lo = HT.sIx ys.length 0 lo ∧ HT.sIx xs.length xs.length hi = HT.sIx ys.length ys.length hi := by rw [h]; exact ⟨rfl, rfl⟩
theorem RepL.cut {ω : Wd} {H : Hp} {vs : List V} {ts : List PV} (r : RepL K ω H vs ts) (lo hi : Option Int) : RepL K ω H (cutV vs lo hi) (cutP ts lo hi) := by
  unfold cutV cutP
  rw [r.length]
  exact (r.drop _).take _
/-! isinstance -/
def tyS : Ty → String
  | .int => "int" | .bool => "bool" | .str => "str" | .tuple => "tuple" | .list => "list"
end
/-! fresh lists -/
def FreshP (K : PySem.W.Frag) (H : Hp) (ω' : Wd) (H' : Hp) (v : V) (t : PV) : Prop := ∃ p vs ts, v = .ref p ∧ t = .lst ts ∧ H p = none ∧ H' p = some (.lst vs) ∧ ¬ ω'.S p ∧ p ∉ ω'.cs ∧ RepL K ω' H' vs ts
def postF (K : PySem.W.Frag) (g : Gh) (ω : Wd) (ρ : En) (σ : St) (H : Hp) (W : Wx) (r : R PV) (Q : VK) : Prop := match r with
  | .ok t st' => ∀ x H' ω', ExtE ω H ω' H' → CelOk K ω' st' H' → FreshP K H ω' H' x t → Q x H'
  | .exc e st' => ∀ H' ω', ExtE ω H ω' H' → CelOk K ω' st' H' → W e g ω' ρ st' σ H'
  | .bad => False
def tvF (K : PySem.W.Frag) (W : Wx) (f : En → Cel → R PV) : TE := fun σ H Q => ∃ g ω ρ st, Rel K g ω ρ st σ H ∧ postF K g ω ρ σ H W (f ρ st) Q
section
variable {K : PySem.W.Frag} {g : Gh} {ω ω' : Wd} {ρ : En} {st st' : Cel} {σ : St} {H H' : Hp} {W : Wx} {X : Cx} {e a b : Expr}
theorem CelOk.add {p : Addr} {o : HO} (c : CelOk K ω st H) (h : p ∉ ω.cs) (hp : H p = some o) : CelOk K (ω.add p) st H := by
  have x : Ext ω H (ω.add p) H := ⟨fun _ z => .inl z, ⟨[], by simp [Wd.add]⟩, fun _ _ z _ => z⟩
  refine ⟨c.len, c.nd, fun a ha z => ?_, fun a z => ?_, fun k a ha => ?_⟩
  · rcases z with z | z
    · exact c.out a ha z
    · exact h (z ▸ ha)
  · rcases z with z | z
    · exact c.trk a z
    · rw [z]; exact ⟨o, hp⟩
  · obtain ⟨vs, ts, h1, h2, h3⟩ := c.at_ k a ha
    exact ⟨vs, ts, h1, h2, h3.mono x⟩
theorem FreshP.rep {v : V} {t : PV} (h : FreshP K H ω' H' v t) (x : ExtE ω H ω' H') (c : CelOk K ω' st' H') : ∃ ω2, ExtE ω H ω2 H' ∧ CelOk K ω2 st' H' ∧ Rep K ω2 H' v t := by
  obtain ⟨p, vs, ts, rfl, rfl, h1, h2, h3, h4, h5⟩ := h
  have y : Ext ω' H' (ω'.add p) H' := ⟨fun _ z => .inl z, ⟨[], by simp [Wd.add]⟩, fun _ _ z _ => z⟩
  refine ⟨ω'.add p, ⟨fun a z => .inl (x.sub a z), x.cs, x.keep, fun a z => ?_, x.newC, x.there⟩, c.add h4 h2, .lst (.inr rfl) h2 (h5.mono y)⟩
  rcases z with z | z
  · exact x.newS a z
  · rw [z]; exact .inr h1
/-- a fresh list as a value -/
theorem v_of_F {f : En → Cel → R PV} {bz : Bool} : ∀ σ H Q, tv K bz W f σ H Q → tvF K W f σ H Q := by
  intro σ H Q ⟨g, ω, ρ, st, rel, q⟩
  refine ⟨g, ω, ρ, st, rel, ?_⟩
  cases e1 : f ρ st with
  | ok t s =>
    rw [e1] at q
    intro x H' ω' y c p
    obtain ⟨ω2, y2, c2, r2⟩ := p.rep y c
    exact q x H' ω2 y2 c2 (.inl r2)
  | exc x s => rw [e1] at q; exact q
  | bad => rw [e1] at q; exact q
theorem sF_v {f : En → Cel → R PV} {bz : Bool} (h : PE X e (tvF X.K W f)) : PE X e (tv X.K bz W f) := wPE h v_of_F
theorem postF.ext {r : R PV} {Q : VK} (h : postF K g ω ρ σ H W r Q) (x : ExtE ω H ω' H') : postF K g ω' ρ σ H' W r Q := by
  cases r with
  | ok t s =>
    rintro y H2 ω2 x2 c ⟨p, vs, ts, e1, e2, h1, h2⟩
    exact h y H2 ω2 (x.trans x2) c ⟨p, vs, ts, e1, e2, x.none h1, h2⟩
  | exc e s => exact fun H2 ω2 x2 c => h H2 ω2 (x.trans x2) c
  | bad => exact h
theorem bindF {α β : Type} {P : RX α β} {f : En → Cel → R α} {k : α → Cel → R PV} {Q : VK} (r : Rel K g ω ρ st σ H) (h : postF K g ω ρ σ H W ((f ρ st).bind k) Q) :
    tG P K W f σ H (fun x H1 => ∃ ω1 st1 t, ExtE ω H ω1 H1 ∧ Rel K g ω1 ρ st1 σ H1 ∧ P ω1 H1 x t ∧ postF K g ω1 ρ σ H1 W (k t st1) Q) := by
  refine ⟨g, ω, ρ, st, r, ?_⟩
  cases e : f ρ st with
  | ok t s =>
    rw [e] at h
    exact fun x H1 ω1 x1 c p => ⟨ω1, s, t, x1, r.extE x1 c, p, postF.ext h x1⟩
  | exc x s => rw [e] at h; exact h
  | bad => rw [e] at h; exact h
/-- a new list of values that are told -/
theorem freshNew {vs : List V} {ts : List PV} {Q : VK} (rel : Rel K g ω ρ st σ H) (q : postF K g ω ρ σ H W (.ok (.lst ts) st) Q) (r : RepL K ω H vs ts) : ∀ p, H p = none → Q (.ref p) (upd H p (.lst vs)) := fun p hp => by
  refine q _ _ ω (Grow.upd hp).toE (rel.cells.grow (Grow.upd hp)) ⟨p, vs, ts, rfl, rfl, hp, upd_same, fun z => ?_, fun z => ?_, r.mono (Grow.upd hp).ext⟩
  · obtain ⟨o, q⟩ := rel.cells.trk p z
    rw [hp] at q; cases q
  · obtain ⟨vs, z⟩ := rel.cells.lstAt z
    rw [hp] at z; cases z
theorem sF_lst {es : List Expr} {f : En → Cel → R (List PV)} (hpe : ∀ ta, PA X es ta → PE X e (tLst ta)) (ha : PA X es (tvs X.K W f)) :
    PE X e (tvF X.K W fun ρ st => (f ρ st).bind fun xs st => if szOk xs.length then .ok (.lst xs) st else .bad) := by
  refine wPE (hpe _ ha) fun σ H Q ⟨g, ω, ρ, st, rel, h⟩ => (bindF (P := RepL X.K) rel h).mono fun xs H1 ⟨ω1, st1, ts, x1, rel1, p, q⟩ => ?_
  by_cases hz : szOk ts.length = true
  · rw [if_pos hz] at q
    exact ⟨by rw [p.length]; exact szOk_le hz, freshNew rel1 q p⟩
  · rw [if_neg hz] at q; exact q.elim
/-- one operand, the answer a new list -/
theorem sF1 {f : En → Cel → R PV} {r : V → Hp → VK → Prop} {v : Cel → PV → Option PV} {ba : Bool} (hpe : ∀ ta, PE X a ta → PE X e (tUn r ta)) (ha : PE X a (tv X.K ba W f))
    (hv : ∀ (st : Cel) (x : V) (t z : PV) (ω : Wd) (H : Hp) (Q : VK), CelOk X.K ω st H → RepM X.K ba ω H x t → v st t = some z → (∀ vs ts, z = .lst ts → RepL X.K ω H vs ts → ∀ p, H p = none → Q (.ref p) (upd H p (.lst vs))) → r x H Q) :
    PE X e (tvF X.K W fun ρ st => (f ρ st).bind fun x st => R.of (v st x) st) := by
  refine wPE (hpe _ ha) fun σ H Q ⟨g, ω, ρ, st, rel, h⟩ => (bindF (P := RepM X.K ba) rel h).mono fun x H1 ⟨ω1, st1, t, x1, rel1, p, q⟩ => ?_
  cases e : v st1 t with
  | none => rw [e] at q; exact q.elim
  | some z =>
    rw [e] at q
    exact hv st1 x t z ω1 H1 Q rel1.cells p e fun vs ts ez r => by subst ez; exact freshNew rel1 q r
theorem vf_list {K : PySem.W.Frag} : ∀ (st : Cel) (x : V) (t z : PV) (ω : Wd) (H : Hp) (Q : VK), CelOk K ω st H → RepM K true ω H x t → listV t = some z → (∀ vs ts, z = .lst ts → RepL K ω H vs ts → ∀ p, H p = none → Q (.ref p) (upd H p (.lst vs))) →
    rC1 (fun xs H Q => ∃ p ys, xs = [.ref p] ∧ (SqL K H p ys ∨ SqT K H p ys) ∧ ∀ l, H l = none → Q (.ref l) (upd H l (.lst ys))) x H Q := by
  intro st x t z ω H Q c hx hv q
  unfold listV at hv
  split at hv
  · cases hv
    obtain ⟨a, vs, rfl, ha, ra⟩ := hx.lst
    exact ⟨a, vs, rfl, .inl (.inl (.inl ha)), q vs _ rfl ra⟩
  · cases hv
    obtain ⟨a, vs, rfl, ha, ra⟩ := hx.tup
    exact ⟨a, vs, rfl, .inr ha, q vs _ rfl ra⟩
  · cases hv
end
end Ev
namespace Ev
open PySem L2
section
variable {K : PySem.W.Frag} {g : Gh} {ω ω' : Wd} {ρ : En} {st st' : Cel} {σ : St} {H H' : Hp} {W : Wx} {X : Cx} {e a b : Expr}
/-! ### tests -/
theorem st_val {f : En → Cel → R PV} {bz : Bool} (hpt : ∀ t, PE X e t → PT X e (tB t)) (h : PE X e (tv X.K bz W f)) : PT X e (tvbb X.K W (asB f)) := by
  refine wPT (hpt _ h) fun σ H Q ⟨g, ω, ρ, st, rel, q⟩ => (bindG (P := RepM X.K bz) (f := f) rel q).mono fun x H1 ⟨ω1, st1, t, x1, rel1, p, q⟩ => ?_
  cases t with
  | bl c => exact ⟨c, p.bl, postOk rel1 q rfl⟩
  | _ => exact q.elim
theorem st_cmp {f : En → Cel → R PV} {t : TE} (hpt : PT X e (tTest t)) (hw : ∀ σ H Q, tv X.K false W f σ H Q → t σ H Q) : PT X e (tvbb X.K W (asB f)) := by
  refine wPT hpt fun σ H Q ⟨g, ω, ρ, st, rel, q⟩ => hw _ _ _ ((bindG (P := RepM X.K false) (f := f) rel q).mono fun x H1 ⟨ω1, st1, t, x1, rel1, p, q⟩ => ?_)
  cases t with
  | bl c => exact ⟨c, p.bl, postOk rel1 q rfl⟩
  | _ => exact q.elim
theorem asB_not (f : En → Cel → R PV) (ρ : En) (st : Cel) : asB (fun ρ st => (f ρ st).bind fun x st => R.of (notV x) st) ρ st = (asB f ρ st).bind fun b st => .ok (!b) st := by
  unfold asB
  dsimp only
  cases f ρ st with
  | ok x st => cases x <;> rfl
  | exc e st => rfl
  | bad => rfl
theorem st_not {f : En → Cel → R PV} (hpt : ∀ t, PT X a t → PT X e (tNot t)) (h : PT X a (tvbb X.K W (asB f))) : PT X e (tvbb X.K W (asB fun ρ st => (f ρ st).bind fun x st => R.of (notV x) st)) := by
  refine wPT (hpt _ h) fun σ H Q ⟨g, ω, ρ, st, rel, q⟩ => ?_
  rw [asB_not] at q
  exact (bindG (P := RBB) (f := asB f) rel q).mono fun x H1 ⟨ω1, st1, t, x1, rel1, p, q⟩ => by
    cases (show t = x from p)
    exact postOk rel1 q rfl
theorem asB_and (f f' : En → Cel → R PV) (ρ : En) (st : Cel) : asB (fun ρ st => (f ρ st).bind fun x st => match x with
      | .bl true => f' ρ st
      | .bl false => .ok (.bl false) st
      | _ => .bad) ρ st = (asB f ρ st).bind fun b st => if b then asB f' ρ st else .ok false st := by
  unfold asB
  dsimp only
  cases f ρ st with
  | ok x st =>
    cases x <;> try rfl
    rename_i b
    cases b <;> rfl
  | exc e st => rfl
  | bad => rfl
theorem asB_or (f f' : En → Cel → R PV) (ρ : En) (st : Cel) : asB (fun ρ st => (f ρ st).bind fun x st => match x with
      | .bl true => .ok (.bl true) st
      | .bl false => f' ρ st
      | _ => .bad) ρ st = (asB f ρ st).bind fun b st => if b then .ok true st else asB f' ρ st := by
  unfold asB
  dsimp only
  cases f ρ st with
  | ok x st =>
    cases x <;> try rfl
    rename_i b
    cases b <;> rfl
  | exc e st => rfl
  | bad => rfl
theorem wPW {e : Expr} {t t' : TT} (h : PW X e t) (i : ∀ σ H Q, t' σ H Q → t σ H Q) : PW X e t' := ⟨fun whole pins s σ H Q I q => h.run whole pins s σ H Q I (i _ _ _ q)⟩
theorem sw_and {f f' : En → Cel → R PV} (hpt : ∀ t u, PT X a t → PW X b u → PW X e (tAnd t u)) (h : PT X a (tvbb X.K W (asB f))) (h' : PW X b (tvbb X.K W (asB f'))) :
    PW X e (tvbb X.K W (asB fun ρ st => (f ρ st).bind fun x st => match x with
      | .bl true => f' ρ st
      | .bl false => .ok (.bl false) st
      | _ => .bad)) := by
  refine wPW (hpt _ _ h h') fun σ H Q ⟨g, ω, ρ, st, rel, q⟩ => ?_
  rw [asB_and] at q
  refine (bindG (P := RBB) (f := asB f) rel q).mono fun x H1 ⟨ω1, st1, t, x1, rel1, p, q⟩ => ?_
  cases (show t = x from p)
  cases x with
  | true => exact ⟨g, ω1, ρ, st1, rel1, q⟩
  | false => exact postOk rel1 q rfl
theorem sw_or {f f' : En → Cel → R PV} (hpt : ∀ t u, PT X a t → PW X b u → PW X e (tOr t u)) (h : PT X a (tvbb X.K W (asB f))) (h' : PW X b (tvbb X.K W (asB f'))) :
    PW X e (tvbb X.K W (asB fun ρ st => (f ρ st).bind fun x st => match x with
      | .bl true => .ok (.bl true) st
      | .bl false => f' ρ st
      | _ => .bad)) := by
  refine wPW (hpt _ _ h h') fun σ H Q ⟨g, ω, ρ, st, rel, q⟩ => ?_
  rw [asB_or] at q
  refine (bindG (P := RBB) (f := asB f) rel q).mono fun x H1 ⟨ω1, st1, t, x1, rel1, p, q⟩ => ?_
  cases (show t = x from p)
  cases x with
  | true => exact postOk rel1 q rfl
  | false => exact ⟨g, ω1, ρ, st1, rel1, q⟩
/-- a clause's tests -/
theorem sts_nil : PTs X [] (tvbb X.K W fun _ st => .ok true st) := wPTs pts_nil fun σ H Q ⟨g, ω, ρ, st, rel, q⟩ => postOk rel q rfl
theorem sts_one {f : En → Cel → R PV} (h : PT X e (tvbb X.K W (asB f))) : PTs X [e] (tvbb X.K W (asB f)) := pts_one h
/-! ### slices -/
theorem so_nil : PO X none (tvo X.K W fun _ st => .ok none st) := wPO po_none fun σ H Q ⟨g, ω, ρ, st, rel, q⟩ => by
  exact postOk (x := (none : Option Int)) rel q rfl
theorem so_one {f : En → Cel → R PV} (h : PE X e (tv X.K false W f)) : PO X (some e) (tvo X.K W fun ρ st => (f ρ st).bind fun x st => match x with
    | .int i => .ok (some i) st
    | _ => .bad) := by
  refine wPO (po_some h) fun σ H Q ⟨g, ω, ρ, st, rel, q⟩ => (bindG (P := RepM X.K false) (f := f) rel q).mono fun x H1 ⟨ω1, st1, t, x1, rel1, p, q⟩ => ?_
  cases t with
  | int i => exact ⟨i, p.int, postOk (x := some i) rel1 q rfl⟩
  | _ => exact q.elim
abbrev rSlV (K : PySem.W.Frag) : V → Option Int → Option Int → Hp → VK → Prop := fun x lo hi H Q => rSlL K x lo hi H Q ∨ rSlA K x lo hi H Q
theorem se_sl {f : En → Cel → R PV} {fl fh : En → Cel → R (Option Int)} {lo hi : Option Expr} {bz : Bool} (hpe : ∀ ta tl th, PE X a ta → PO X lo tl → PO X hi th → PE X e (tSl (rSlV X.K) ta tl th)) (ha : PE X a (tv X.K true W f)) (hl : PO X lo (tvo X.K W fl)) (hh : PO X hi (tvo X.K W fh)) :
    PE X e (tv X.K bz W fun ρ st => (f ρ st).bind fun x st => (fl ρ st).bind fun l st => (fh ρ st).bind fun h st => R.of (slV x l h) st) := by
  refine wPE (hpe _ _ _ ha hl hh) fun σ H Q ⟨g, ω, ρ, st, rel, q⟩ => (bindG (P := RepM X.K true) (f := f) rel q).mono fun x H1 ⟨ω1, st1, t, x1, rel1, p, q⟩ => ?_
  refine (bindG (P := RO) (f := fl) rel1 q).mono fun l H2 ⟨ω2, st2, l', x2, rel2, p2, q2⟩ => ?_
  refine (bindG (P := RO) (f := fh) rel2 q2).mono fun h H3 ⟨ω3, st3, h', x3, rel3, p3, q3⟩ => ?_
  cases (show l' = l from p2)
  cases (show h' = h from p3)
  have pp := (p.extE x2 rel1.cells).extE x3 rel2.cells
  obtain ⟨z, ez, qz⟩ := of_post rel3 q3
  unfold slV at ez
  split at ez
  · cases ez
    obtain ⟨a, vs, rfl, ha, ra⟩ := pp.lst
    exact .inl ⟨a, vs, rfl, .inl (.inl ha), newLst (ra.cut l h) qz⟩
  · cases ez
    obtain ⟨a, vs, rfl, ha, ra⟩ := pp.rol
    exact .inl ⟨a, vs, rfl, ha, newLst (ra.cut l h) qz⟩
  · cases ez
    obtain ⟨a, vs, rfl, ha, ra⟩ := pp.tup
    refine .inr ⟨a, vs, rfl, ha, fun z => ?_, fun _ => newTup (ra.cut l h) qz⟩
    refine qz _ _ ω3 (Grow.refl _ _) (.tup ha ?_)
    have e1 : cutV vs l h = vs := by
      unfold cutV
      rw [z.1, z.2]
      simp
    have := ra.cut l h
    rw [e1] at this
    exact this
  · cases ez
/-! ### isinstance -/
theorem tyx {t : PV} {x : V} {ty : Ty} {k : Bool} (h : RepM K true ω H x t) (e : isaV t ty = some k) : ∃ n, TyX K H x (.type n) ∧ kitB n (tyS ty) = some k := by
  cases t with
  | non =>
    refine ⟨"NoneType", ?_, ?_⟩
    · rw [h.non]; exact .base .non
    · cases ty <;> (cases e; decide +kernel)
  | bl c =>
    refine ⟨"bool", ?_, ?_⟩
    · rw [h.bl]; exact .base (.bl c)
    · cases ty <;> (cases e; decide +kernel)
  | int i =>
    refine ⟨"int", ?_, ?_⟩
    · rw [h.int]; exact .base (.int i)
    · cases ty <;> (cases e; decide +kernel)
  | str i =>
    refine ⟨"str", ?_, ?_⟩
    · rw [h.str]; exact .base (.str i)
    · cases ty <;> (cases e; decide +kernel)
  | tup ts =>
    obtain ⟨a, vs, rfl, ha, ra⟩ := h.tup
    refine ⟨"tuple", ?_, ?_⟩
    · rcases ha with (ha | ⟨o, ha⟩) | ⟨o, _, _, ho, hc, _⟩
      · exact .base (.tup ha)
      · exact .fTuple ha
      · exact .kTuple ho hc
    · cases ty <;> (cases e; decide +kernel)
  | lst ts =>
    obtain ⟨a, vs, rfl, ha, ra⟩ := h.lst
    refine ⟨"list", .base (.lst ha), ?_⟩
    cases ty <;> (cases e; decide +kernel)
  | rol ts => cases ty <;> cases e
  | cell k => cases ty <;> cases e
  | dct ks ts => cases ty <;> cases e
end
end Ev
namespace Ev
open PySem L2
section
variable {K : PySem.W.Frag} {g : Gh} {ω ω' : Wd} {ρ : En} {st st' : Cel} {σ : St} {H H' : Hp} {W : Wx} {X : Cx} {e a b : Expr}
/-! ### targets -/
theorem get_set {α : Type} {l : List α} {i j : Nat} {x y : α} (h : (l.set i x)[j]? = some y) : (i = j ∧ x = y) ∨ (i ≠ j ∧ l[j]? = some y) := by
  by_cases e : i = j
  · subst e
    by_cases hi : i < l.length
    · rw [List.getElem?_set_self hi] at h; exact .inl ⟨rfl, Option.some.inj h⟩
    · rw [List.getElem?_eq_none (by simpa using hi)] at h; cases h
  · rw [List.getElem?_set_ne e] at h; exact .inr ⟨e, h⟩
theorem lt_of_set {α : Type} {l : List α} {i : Nat} {x y : α} (h : (l.set i x)[i]? = some y) : i < l.length := by
  rcases Nat.lt_or_ge i l.length with z | z
  · exact z
  · rw [List.getElem?_eq_none (by simpa using z)] at h; cases h
theorem Rel.set (r : Rel K g ω ρ st σ H) (i : Nat) {v : V} {t : PV} (h : Rep K ω H v t) : Rel K g ω (set1 ρ i t) st (σ.set i (some v)) H := by
  unfold set1
  refine ⟨by simp [r.len], fun j u hj => ?_, fun j u hj => ?_, fun j k u w a hj hk h1 h2 => ?_, r.cells, r.base, r.sub, r.new, r.csp, r.csn, r.cs0⟩
  · rcases get_set hj with ⟨rfl, e⟩ | ⟨ne, e⟩
    · cases e
      exact ⟨v, by rw [List.getElem?_set_self (by rw [r.len]; exact lt_of_set hj)], h⟩
    · obtain ⟨v', e1, r1⟩ := r.val j u e
      exact ⟨v', by rw [List.getElem?_set_ne ne]; exact e1, r1⟩
  · rcases get_set hj with ⟨rfl, e⟩ | ⟨ne, e⟩
    · cases e
    · obtain ⟨a, e1, r1⟩ := r.own j u e
      exact ⟨a, by rw [List.getElem?_set_ne ne]; exact e1, r1⟩
  · rcases get_set hj with ⟨rfl, e⟩ | ⟨ne, e⟩
    · cases e
    · rcases get_set hk with ⟨rfl, e'⟩ | ⟨ne', e'⟩
      · cases e'
      · rw [List.getElem?_set_ne ne] at h1
        rw [List.getElem?_set_ne ne'] at h2
        exact r.sep j k u w a e e' h1 h2
theorem Rel.emp (r : Rel K g ω ρ st σ H) (i : Nat) : Rel K g ω (ρ.set i .emp) st (σ.set i none) H := by
  refine ⟨by simp [r.len], fun j u hj => ?_, fun j u hj => ?_, fun j k u w a hj hk h1 h2 => ?_, r.cells, r.base, r.sub, r.new, r.csp, r.csn, r.cs0⟩
  · rcases get_set hj with ⟨rfl, e⟩ | ⟨ne, e⟩
    · cases e
    · obtain ⟨v', e1, r1⟩ := r.val j u e
      exact ⟨v', by rw [List.getElem?_set_ne ne]; exact e1, r1⟩
  · rcases get_set hj with ⟨rfl, e⟩ | ⟨ne, e⟩
    · cases e
    · obtain ⟨a, e1, r1⟩ := r.own j u e
      exact ⟨a, by rw [List.getElem?_set_ne ne]; exact e1, r1⟩
  · rcases get_set hj with ⟨rfl, e⟩ | ⟨ne, e⟩
    · cases e
    · rcases get_set hk with ⟨rfl, e'⟩ | ⟨ne', e'⟩
      · cases e'
      · rw [List.getElem?_set_ne ne] at h1
        rw [List.getElem?_set_ne ne'] at h2
        exact r.sep j k u w a e e' h1 h2
theorem Rel.wipe (r : Rel K g ω ρ st σ H) : ∀ vs : List Nat, Rel K g ω (wipeE ρ vs) st (L2.wipe σ vs) H
  | [] => r
  | v :: vs => (Rel.wipe r vs).emp v
def gNames : List Nat → TGs
  | [] => gNil
  | i :: is => gCons (gName i) (gNames is)
def gAsg (K : PySem.W.Frag) (tg : List Nat) : TG := match tg with
  | [i] => gName i
  | is => fun v σ H Q => gTup K is.length (gNames is) v σ H Q ∨ gUnl K is.length (gNames is) v σ H Q
theorem pg_or {e : Expr} {t t' : TG} (h : PG X e t) (h' : PG X e t') : PG X e (fun v σ H Q => t v σ H Q ∨ t' v σ H Q) := ⟨fun pins s σ H v u Q I r q => q.elim (fun q => h.run pins s σ H v u Q I r q) (fun q => h'.run pins s σ H v u Q I r q)⟩
def setAll (ρ : En) (ps : List (Nat × PV)) : En := ps.foldl (fun ρ p => set1 ρ p.1 p.2) ρ
/-- the slots that a target writes -/
def setS (σ : St) : List Nat → List V → St
  | i :: is, v :: vs => setS (σ.set i (some v)) is vs
  | _, _ => σ
theorem gNames_ok : ∀ (is : List Nat) {vs : List V} {ts : List PV} {ρ : En} {σ : St} {Q : St → Hp → Prop}, Rel K g ω ρ st σ H → RepL K ω H vs ts → vs.length = is.length →
    (Rel K g ω (setAll ρ (is.zip ts)) st (setS σ is vs) H → Q (setS σ is vs) H) → gNames is vs σ H Q
  | [], _, _, _, _, _, r, .nil, _, q => ⟨rfl, q r⟩
  | i :: is, _, _, ρ, σ, Q, r, .cons h hs, hl, q => ⟨_, _, rfl, gNames_ok is (r.set i h) hs (by simpa using hl) q⟩
/-- the slots behind a target, told by the written value -/
def tgS (σ : St) (tg : List Nat) (x : V) (vs : List V) : St := match tg with
  | [i] => σ.set i (some x)
  | is => setS σ is vs
theorem gAsg_ok {tg : List Nat} {x : V} {t : PV} {ρ' : En} {Q : St → Hp → Prop} (r : Rel K g ω ρ st σ H) (h : Rep K ω H x t) (e : assignT tg t ρ = some ρ') (q : ∀ vs, Rel K g ω ρ' st (tgS σ tg x vs) H → Q (tgS σ tg x vs) H) : gAsg K tg x σ H Q := by
  match tg, e, q with
  | [i], e, q =>
    unfold assignT at e
    cases e
    exact q [] (r.set i h)
  | [], e, q =>
    unfold assignT at e
    cases t with
    | tup xs =>
      dsimp only at e
      split at e
      · rename_i hl
        cases e
        cases h with
        | @tup a vs _ h1 h2 =>
          refine .inl ⟨a, vs, rfl, h1, by rw [h2.length]; exact hl, gNames_ok [] r h2 (by rw [h2.length]; exact hl) fun r' => q vs r'⟩
      · cases e
    | lst xs =>
      dsimp only at e
      split at e
      · rename_i hl
        cases e
        cases h with
        | @lst a vs _ hs h1 h2 =>
          refine .inr ⟨a, vs, rfl, .inl (.inl h1), by rw [h2.length]; exact hl, gNames_ok [] r h2 (by rw [h2.length]; exact hl) fun r' => q vs r'⟩
      · cases e
    | _ => cases e
  | i :: j :: is, e, q =>
    unfold assignT at e
    cases t with
    | tup xs =>
      dsimp only at e
      split at e
      · rename_i hl
        cases e
        cases h with
        | @tup a vs _ h1 h2 =>
          refine .inl ⟨a, vs, rfl, h1, by rw [h2.length]; exact hl, gNames_ok (i :: j :: is) r h2 (by rw [h2.length]; exact hl) fun r' => q vs r'⟩
      · cases e
    | lst xs =>
      dsimp only at e
      split at e
      · rename_i hl
        cases e
        cases h with
        | @lst a vs _ hs h1 h2 =>
          refine .inr ⟨a, vs, rfl, .inl (.inl h1), by rw [h2.length]; exact hl, gNames_ok (i :: j :: is) r h2 (by rw [h2.length]; exact hl) fun r' => q vs r'⟩
      · cases e
    | _ => cases e
theorem wipe_set {i : Nat} {v : Option V} : ∀ {vs : List Nat} {σ : St}, i ∈ vs → L2.wipe (σ.set i v) vs = L2.wipe σ vs
  | [], _, h => by cases h
  | j :: vs, σ, h => by
    unfold L2.wipe
    by_cases e : i ∈ vs
    · rw [wipe_set e]
    · have ej : i = j := by
        rcases List.mem_cons.mp h with z | z
        · exact z
        · exact absurd z e
      subst ej
      have hs : ∀ (vs : List Nat) (σ : St), i ∉ vs → L2.wipe (σ.set i v) vs = (L2.wipe σ vs).set i v := by
        intro vs
        induction vs with
        | nil => intro σ _; rfl
        | cons k ks ih =>
          intro σ hk
          unfold L2.wipe
          rw [ih σ (fun z => hk (by simp [z]))]
          exact List.set_comm _ _ (fun z => hk (by simp [z]))
      rw [hs vs σ e, List.set_set]
theorem wipe_setS {vs : List Nat} : ∀ (is : List Nat) (ws : List V) (σ : St), (∀ i ∈ is, i ∈ vs) → L2.wipe (setS σ is ws) vs = L2.wipe σ vs
  | [], _, _, _ => by unfold setS; rfl
  | i :: is, [], _, _ => by unfold setS; rfl
  | i :: is, w :: ws, σ, h => by
    unfold setS
    rw [wipe_setS is ws _ (fun j hj => h j (List.mem_cons_of_mem _ hj)), wipe_set (h i List.mem_cons_self)]
theorem wipe_idem_set : ∀ (vs : List Nat) (σ : St) (j : Nat), j ∈ vs → (L2.wipe σ vs).set j none = L2.wipe σ vs
  | [], _, _, h => by cases h
  | k :: vs, σ, j, h => by
    unfold L2.wipe
    by_cases e : j = k
    · subst e; rw [List.set_set]
    · have hj : j ∈ vs := by
        rcases List.mem_cons.mp h with z | z
        · exact absurd z e
        · exact z
      rw [List.set_comm _ _ (Ne.symm e), wipe_idem_set vs σ j hj]
theorem wipe_idem (vs : List Nat) (σ : St) : L2.wipe (L2.wipe σ vs) vs = L2.wipe σ vs := by
  have : ∀ us : List Nat, (∀ j ∈ us, j ∈ vs) → L2.wipe (L2.wipe σ vs) us = L2.wipe σ vs := by
    intro us
    induction us with
    | nil => intro _; rfl
    | cons k ks ih =>
      intro h
      show (L2.wipe (L2.wipe σ vs) ks).set k none = L2.wipe σ vs
      rw [ih (fun j hj => h j (List.mem_cons_of_mem _ hj))]
      exact wipe_idem_set vs σ k (h k List.mem_cons_self)
  exact this vs fun _ h => h
theorem wipe_tgS {vs tg : List Nat} {x : V} {ws : List V} {σ : St} (h : ∀ i ∈ tg, i ∈ vs) : L2.wipe (tgS (L2.wipe σ vs) tg x ws) vs = L2.wipe σ vs := by
  unfold tgS
  split
  · rw [wipe_set (h _ (by simp)), wipe_idem]
  · rw [wipe_setS _ _ _ h, wipe_idem]
/-! ### what is walked -/
/-- while the world goes on from here, J yields xs -/
def ItOk (K : PySem.W.Frag) (b : Bool) (J : It) (xs : List PV) (ω : Wd) (H : Hp) : Prop := ∀ ω' H', Ext ω H ω' H' → (b = true → ExtE ω H ω' H') →
  (∀ i, i < xs.length → J.go i H') ∧ J.stop xs.length H' ∧ ∀ i x H'', i < xs.length → J.yld i H' x H'' → ∃ ω'' t, Grow ω' H' ω'' H'' ∧ xs[i]? = some t ∧ Rep K ω'' H'' x t
def postI (K : PySem.W.Frag) (b : Bool) (g : Gh) (ω : Wd) (ρ : En) (σ : St) (H : Hp) (W : Wx) (r : R PV) (Q : It → Hp → Prop) : Prop := match r with
  | .ok t st' => ∃ xs, itemsOf t = some xs ∧ ∀ J H' ω', ExtE ω H ω' H' → CelOk K ω' st' H' → ItOk K b J xs ω' H' → Q J H'
  | .exc e st' => ∀ H' ω', ExtE ω H ω' H' → CelOk K ω' st' H' → W e g ω' ρ st' σ H'
  | .bad => False
def ti (K : PySem.W.Frag) (b : Bool) (W : Wx) (f : En → Cel → R PV) : TI := fun σ H Q => ∃ g ω ρ st, Rel K g ω ρ st σ H ∧ postI K b g ω ρ σ H W (f ρ st) Q
theorem wPI {tg iter : Expr} {w w' : TI} (h : PI X tg iter w) (i : ∀ σ H R, w' σ H R → w σ H R) : PI X tg iter w' := ⟨fun pins s σ H R I q => h.run pins s σ H R I (i _ _ _ q)⟩
theorem pi_or {tg iter : Expr} {w w' : TI} (h : PI X tg iter w) (h' : PI X tg iter w') : PI X tg iter (fun σ H R => w σ H R ∨ w' σ H R) := ⟨fun pins s σ H R I q => by
  rcases q with q | q
  · exact h.run pins s σ H R I q
  · exact h'.run pins s σ H R I q⟩
theorem it_seq {J : It} {vs : List V} {ts : List PV} {bb : Bool} (r : RepL K ω H vs ts) (c : CelOk K ω st H)
    (h : ∀ ω' H', Ext ω H ω' H' → (bb = true → ExtE ω H ω' H') → (∀ i, i < vs.length → J.go i H') ∧ J.stop vs.length H' ∧ ∀ i x H'', J.yld i H' x H'' → H'' = H' ∧ vs[i]? = some x) : ItOk K bb J ts ω H := by
  intro ω' H' x xe
  obtain ⟨h1, h2, h3⟩ := h ω' H' x xe
  rw [← r.length]
  refine ⟨h1, h2, fun i y H'' hi hy => ?_⟩
  obtain ⟨rfl, e⟩ := h3 i y H'' hy
  obtain ⟨t, e1, r1⟩ := r.getV e
  exact ⟨ω', t, Grow.refl _ _, e1, r1.mono x⟩
theorem RepM.dct {b : Bool} {x : V} {ks : List Key} {ts : List PV} (h : RepM K b ω H x (.dct ks ts)) : ∃ a o kvs, x = .ref a ∧ H a = some (.frz o (.dK kvs)) ∧ ks = kvs.map (·.1) ∧ RepL K ω H (kvs.map (·.2)) ts := by
  rcases h with h | ⟨_, a, e, ⟨vs, ts', e1, e2, e3⟩, _⟩
  · cases h with
    | dct h r => exact ⟨_, _, _, rfl, h, rfl, r⟩
  · cases e1
theorem repl_keys {kvs : List (Key × V)} : RepL K ω H ((kvs.map (·.1)).map kV) ((kvs.map (·.1)).map kP) := by
  induction kvs with
  | nil => exact .nil
  | cons q r ih =>
    obtain ⟨k, v⟩ := q
    cases k with
    | inl i => exact .cons (.int i) ih
    | inr x => exact .cons (.str x) ih
/-- a list or a tuple; b: also a list that a name owns, where nothing but expressions run meanwhile -/
theorem si_seq {tg iter : Expr} {f : En → Cel → R PV} {bb : Bool} (h : PE X iter (tv X.K bb W f)) : PI X tg iter (ti X.K bb W f) := by
  refine wPI (pi_or (pi_list h) (pi_or (pi_tup h) (pi_keys h))) fun σ H R ⟨g, ω, ρ, st, rel, q⟩ => ?_
  cases e : f ρ st with
  | bad => rw [e] at q; exact q.elim
  | exc x s => rw [e] at q; exact .inl ⟨g, ω, ρ, st, rel, by rw [e]; exact q⟩
  | ok t s =>
    rw [e] at q
    obtain ⟨xs, ex, q⟩ := q
    cases t with
    | lst ts =>
      cases ex
      refine .inl ⟨g, ω, ρ, st, rel, ?_⟩
      rw [e]
      intro x H' ω' y c p
      rcases p with p | ⟨hb, a, e1, ⟨vs, ts', e2, e3, e4⟩, nc⟩
      · cases p with
        | @lst a vs _ hs hh hr =>
          refine ⟨a, rfl, ⟨vs, .inl (.inl hh)⟩, q _ H' ω' y c (it_seq hr c fun ω2 H2 z _ => ?_)⟩
          have hq : SqL X.K H2 a vs := .inl (.inl (z.keep _ _ hh (.inl hs)))
          exact ⟨fun i hi => ⟨vs, vs[i], hq, by simp [hi]⟩, ⟨vs, hq, Nat.le_refl _⟩, fun i x H'' hy => ⟨hy.1, hy.2 vs hq⟩⟩
      · subst e1
        cases e2
        refine ⟨a, rfl, ⟨vs, .inl (.inl e3)⟩, q _ H' ω' y c (it_seq e4 c fun ω2 H2 z ze => ?_)⟩
        have hq : SqL X.K H2 a vs := .inl (.inl ((ze hb).keep _ _ e3 nc))
        exact ⟨fun i hi => ⟨vs, vs[i], hq, by simp [hi]⟩, ⟨vs, hq, Nat.le_refl _⟩, fun i x H'' hy => ⟨hy.1, hy.2 vs hq⟩⟩
    | rol ts =>
      cases ex
      refine .inl ⟨g, ω, ρ, st, rel, ?_⟩
      rw [e]
      intro x H' ω' y c p
      rcases p with p | ⟨hb, a, e1, ⟨vs, ts', e2, e3, e4⟩, nc⟩
      · cases p with
        | @rol a vs _ hh hr =>
          refine ⟨a, rfl, ⟨vs, hh.sq⟩, q _ H' ω' y c (it_seq hr c fun ω2 H2 z _ => ?_)⟩
          have hq : SqL X.K H2 a vs := (z.roL hh).sq
          exact ⟨fun i hi => ⟨vs, vs[i], hq, by simp [hi]⟩, ⟨vs, hq, Nat.le_refl _⟩, fun i x H'' hy => ⟨hy.1, hy.2 vs hq⟩⟩
      · cases e2
    | tup ts =>
      cases ex
      refine .inr (.inl ⟨g, ω, ρ, st, rel, ?_⟩)
      rw [e]
      intro x H' ω' y c p
      obtain ⟨a, vs, rfl, hh, hr⟩ := p.tup
      refine ⟨a, rfl, ⟨vs, hh⟩, q _ H' ω' y c (it_seq hr c fun ω2 H2 z _ => ?_)⟩
      have hq : SqT X.K H2 a vs := z.sqT hh
      exact ⟨fun i hi => ⟨vs, vs[i], hq, by simp [hi]⟩, ⟨vs, hq, Nat.le_refl _⟩, fun i x H'' hy => ⟨hy.1, hy.2 vs hq⟩⟩
    | dct ks ts =>
      cases ex
      refine .inr (.inr ⟨g, ω, ρ, st, rel, ?_⟩)
      rw [e]
      intro x H' ω' y c p
      obtain ⟨a, o, kvs, rfl, hh, rfl, hr⟩ := p.dct
      refine ⟨a, o, rfl, .inl ⟨kvs, hh, q _ H' ω' y c (it_seq (repl_keys (kvs := kvs)) c fun ω2 H2 z _ => ?_)⟩⟩
      have hq := z.keep _ _ hh (.inr trivial)
      refine ⟨fun i hi => ⟨hq, by simpa using hi⟩, ⟨hq, by simp⟩, fun i x H'' hy => ?_⟩
      obtain ⟨e1, kk, v, e2, rfl⟩ := hy
      exact ⟨e1, by simp [e2]⟩
    | _ => cases ex
theorem bindI {α β : Type} {P : RX α β} {f : En → Cel → R α} {k : α → Cel → R PV} {Q : It → Hp → Prop} {bb : Bool} (r : Rel K g ω ρ st σ H) (h : postI K bb g ω ρ σ H W ((f ρ st).bind k) Q) :
    tG P K W f σ H (fun x H1 => ∃ ω1 st1 t, ExtE ω H ω1 H1 ∧ Rel K g ω1 ρ st1 σ H1 ∧ P ω1 H1 x t ∧ postI K bb g ω1 ρ σ H1 W (k t st1) Q) := by
  refine ⟨g, ω, ρ, st, r, ?_⟩
  cases e : f ρ st with
  | ok t s =>
    rw [e] at h
    intro x H1 ω1 x1 c p
    refine ⟨ω1, s, t, x1, r.extE x1 c, p, ?_⟩
    simp only [R.bind_ok] at h
    revert h
    cases k t s with
    | ok u s2 => exact fun ⟨xs, ex, h⟩ => ⟨xs, ex, fun J H' ω' y c i => h J H' ω' (x1.trans y) c i⟩
    | exc e2 s2 => exact fun h H' ω' y c => h H' ω' (x1.trans y) c
    | bad => exact fun h => h
  | exc x s => rw [e] at h; exact h
  | bad => rw [e] at h; exact h
theorem it_range {lo : Int} {n : Nat} {bb : Bool} {xs : List PV} (h : xs = (List.range n).map fun k => PV.int (lo + (k : Nat))) : ItOk K bb (Itr lo n) xs ω H := by
  intro ω' H' x xe
  subst h
  refine ⟨fun i hi => (by show i < n; simpa using hi), (by show n ≤ _; simp), fun i y H'' hi hy => ?_⟩
  obtain ⟨rfl, rfl⟩ := hy
  simp only [List.length_map, List.length_range] at hi
  exact ⟨ω', .int (lo + (i : Nat)), Grow.refl _ _, by simp [hi], .int _⟩
theorem rOk_le {i : Int} (h : rOk i = true) : -(2 ^ 62) ≤ i ∧ i < 2 ^ 62 := by
  unfold rOk at h
  simpa using h
theorem si_rng1 {tg iter : Expr} {f : En → Cel → R PV} {bb : Bool} (hpi : ∀ ta, PE X a ta → PI X tg iter (iRng1 (tCons ta tNil))) (ha : PE X a (tv X.K false W f)) : PI X tg iter (ti X.K bb W fun ρ st => (f ρ st).bind fun x st => R.of (rng1V x) st) := by
  refine wPI (hpi _ ha) fun σ H R ⟨g, ω, ρ, st, rel, q⟩ => (bindI (P := RepM X.K false) (f := f) rel q).mono fun x H1 ⟨ω1, st1, t, x1, rel1, p, q⟩ => ?_
  cases t with
  | int i =>
    unfold rng1V at q
    dsimp only at q
    by_cases hz : rOk i = true
    · rw [if_pos hz] at q
      obtain ⟨xs, ex, q⟩ := q
      cases ex
      refine ⟨i, by rw [p.int], (rOk_le hz).1, (rOk_le hz).2, q _ H1 ω1 (ExtE.refl _ _) rel1.cells (it_range ?_)⟩
      unfold rngP
      simp
    · rw [if_neg hz] at q; exact q.elim
  | _ => exact q.elim
theorem si_rng2 {tg iter : Expr} {f f' : En → Cel → R PV} {bb : Bool} (hpi : ∀ ta tb, PE X a ta → PE X b tb → PI X tg iter (iRng2 (tCons ta (tCons tb tNil)))) (ha : PE X a (tv X.K false W f)) (hb : PE X b (tv X.K false W f')) :
    PI X tg iter (ti X.K bb W fun ρ st => (f ρ st).bind fun x st => (f' ρ st).bind fun y st => R.of (rng2V x y) st) := by
  refine wPI (hpi _ _ ha hb) fun σ H R ⟨g, ω, ρ, st, rel, q⟩ => (bindI (P := RepM X.K false) (f := f) rel q).mono fun x H1 ⟨ω1, st1, t, x1, rel1, p, q⟩ => ?_
  refine (bindI (P := RepM X.K false) (f := f') rel1 q).mono fun y H2 ⟨ω2, st2, u, x2, rel2, p2, q2⟩ => ?_
  cases t with
  | int i =>
    cases u with
    | int j =>
      unfold rng2V at q2
      dsimp only at q2
      by_cases hz : (rOk i && rOk j) = true
      · rw [if_pos hz] at q2
        simp only [Bool.and_eq_true] at hz
        obtain ⟨xs, ex, q2⟩ := q2
        cases ex
        refine ⟨i, j, by rw [p.int, p2.int], ⟨(rOk_le hz.1).1, (rOk_le hz.1).2, (rOk_le hz.2).1, (rOk_le hz.2).2⟩, q2 _ H2 ω2 (ExtE.refl _ _) rel2.cells (it_range ?_)⟩
        unfold rngP
        rfl
      · rw [if_neg hz] at q2; exact q2.elim
    | _ => exact q2.elim
  | _ => exact q2.elim
theorem it_zip {J : It} {xs ys : List V} {ts us : List PV} {bb : Bool} (r1 : RepL K ω H xs ts) (r2 : RepL K ω H ys us)
    (h : ∀ ω' H', Ext ω H ω' H' → (bb = true → ExtE ω H ω' H') → (∀ i, i < min xs.length ys.length → J.go i H') ∧ J.stop (min xs.length ys.length) H' ∧
      ∀ i v H'', J.yld i H' v H'' → ∃ T x y, v = .ref T ∧ H' T = none ∧ H'' = upd H' T (.tup [x, y]) ∧ xs[i]? = some x ∧ ys[i]? = some y) :
    ItOk K bb J ((ts.zip us).map fun p => .tup [p.1, p.2]) ω H := by
  intro ω' H' x xe
  obtain ⟨h1, h2, h3⟩ := h ω' H' x xe
  have hl : ((ts.zip us).map fun p : PV × PV => PV.tup [p.1, p.2]).length = min xs.length ys.length := by rw [List.length_map, List.length_zip, r1.length, r2.length]
  rw [hl]
  refine ⟨h1, h2, fun i v H'' hi hy => ?_⟩
  obtain ⟨T, x1, y1, rfl, hT, rfl, e1, e2⟩ := h3 i v H'' hy
  obtain ⟨t, f1, g1⟩ := r1.getV e1
  obtain ⟨u, f2, g2⟩ := r2.getV e2
  refine ⟨ω', .tup [t, u], Grow.upd hT, ?_, .tup (.inl (.inl upd_same)) (.cons (g1.mono (x.trans (Grow.upd hT).ext)) (.cons (g2.mono (x.trans (Grow.upd hT).ext)) .nil))⟩
  rw [List.getElem?_map, (List.getElem?_zip_eq_some (z := (t, u))).mpr ⟨f1, f2⟩]
  rfl
theorem si_zip {tg iter : Expr} {f f' : En → Cel → R PV} (hpi : ∀ ta tb, PE X a ta → PE X b tb → PI X tg iter (RZ.iZipA X.K (tCons ta (tCons tb tNil)))) (ha : PE X a (tv X.K false W f)) (hb : PE X b (tv X.K false W f')) {bb : Bool} :
    PI X tg iter (ti X.K bb W fun ρ st => (f ρ st).bind fun x st => (f' ρ st).bind fun y st => R.of (zipV x y) st) := by
  refine wPI (hpi _ _ ha hb) fun σ H R ⟨g, ω, ρ, st, rel, q⟩ => (bindI (P := RepM X.K false) (f := f) rel q).mono fun x H1 ⟨ω1, st1, t, x1, rel1, p, q⟩ => ?_
  refine (bindI (P := RepM X.K false) (f := f') rel1 q).mono fun y H2 ⟨ω2, st2, u, x2, rel2, p2, q2⟩ => ?_
  have pp := p.extE x2 rel1.cells
  cases t with
  | tup ts =>
    cases u with
    | tup us =>
      obtain ⟨_, ex, q2⟩ := q2
      cases ex
      obtain ⟨a, xs, rfl, ha, ra⟩ := pp.tup
      obtain ⟨b, ys, rfl, hb, rb⟩ := p2.tup
      refine ⟨a, b, xs, ys, rfl, .inr ⟨ha, hb, q2 _ H2 ω2 (ExtE.refl _ _) rel2.cells (it_zip ra rb fun ω' H' z _ => ?_)⟩⟩
      have ha' := z.sqT ha
      have hb' := z.sqT hb
      refine ⟨fun i hi => ⟨xs, ys, xs[i]'(by omega), ys[i]'(by omega), ha', hb', by simp [show i < xs.length by omega], by simp [show i < ys.length by omega]⟩, ⟨xs, ys, ha', hb', by omega⟩, fun i v H'' hy => ?_⟩
      obtain ⟨T, x, y, e1, e2, e3, e4, e5⟩ := hy
      exact ⟨T, x, y, e1, e2, e3, e4 xs ha', e5 ys hb'⟩
    | _ => exact q2.elim
  | lst ts =>
    cases u with
    | lst us =>
      obtain ⟨_, ex, q2⟩ := q2
      cases ex
      cases pp.rep with
      | @lst a xs _ hs ha ra =>
        cases p2.rep with
        | @lst b ys _ hs' hb rb =>
          refine ⟨a, b, xs, ys, rfl, .inl ⟨.inl (.inl ha), .inl (.inl hb), q2 _ H2 ω2 (ExtE.refl _ _) rel2.cells (it_zip ra rb fun ω' H' z _ => ?_)⟩⟩
          have ha' : SqL X.K H' a xs := .inl (.inl (z.keep _ _ ha (.inl hs)))
          have hb' : SqL X.K H' b ys := .inl (.inl (z.keep _ _ hb (.inl hs')))
          refine ⟨fun i hi => ⟨xs, ys, xs[i]'(by omega), ys[i]'(by omega), ha', hb', by simp [show i < xs.length by omega], by simp [show i < ys.length by omega]⟩, ⟨xs, ys, ha', hb', by omega⟩, fun i v H'' hy => ?_⟩
          obtain ⟨T, x, y, e1, e2, e3, e4, e5⟩ := hy
          exact ⟨T, x, y, e1, e2, e3, e4 xs ha', e5 ys hb'⟩
    | _ => exact q2.elim
  | _ => exact q2.elim
end
end Ev
namespace Ev
open PySem L2
section
variable {K : PySem.W.Frag} {g : Gh} {ω ω' : Wd} {ρ : En} {st st' : Cel} {σ : St} {H H' : Hp} {W : Wx} {X : Cx} {e a b : Expr}
abbrev W0 : Wx := fun _ _ _ _ _ _ _ => False
/-- an unshared list changes -/
theorem extUpd {D : Addr} {vs : List V} {o : HO} (h : H D = some (.lst vs)) (hs : ¬ ω.S D) : Ext ω H ω (upd H D o) := ⟨fun _ z => z, ⟨[], by simp⟩, fun a u e s => by
  have ne : a ≠ D := by
    rintro rfl
    rcases s with s | s
    · exact hs s
    · rw [h] at e; cases e; exact s
  rw [upd_ne ne]; exact e⟩
theorem CelOk.upd {D : Addr} {vs : List V} {o : HO} (c : CelOk K ω st H) (h : H D = some (.lst vs)) (hs : ¬ ω.S D) (hc : D ∉ ω.cs) : CelOk K ω st (L2.upd H D o) := by
  refine ⟨c.len, c.nd, c.out, fun a z => ?_, fun k a ha => ?_⟩
  · obtain ⟨u, q⟩ := c.trk a z
    exact ⟨u, by rw [upd_ne (fun e => hs (by rw [← e]; exact z))]; exact q⟩
  · obtain ⟨ws, ts, h1, h2, h3⟩ := c.at_ k a ha
    have ne : a ≠ D := fun e => hc (by rw [← e]; exact List.mem_of_getElem? ha)
    exact ⟨ws, ts, h1, by rw [upd_ne ne]; exact h2, h3.mono (extUpd h hs)⟩
/-- all that stood ahead of D stays -/
theorem ExtE.updNew {ω0 : Wd} {H0 : Hp} {D : Addr} {o : HO} (x : ExtE ω0 H0 ω H) (h0 : H0 D = Option.none) : ExtE ω0 H0 ω (L2.upd H D o) := by
  refine ⟨x.sub, x.cs, fun a u e n => ?_, x.newS, x.newC, fun a u e => ?_⟩
  · rw [upd_ne (fun z => by rw [z, h0] at e; cases e)]; exact x.keep a u e n
  · rw [upd_ne (fun z => by rw [z, h0] at e; cases e)]; exact x.there a u e
/-- the state of a comprehension ahead of turn i -/
structure Lc (K : PySem.W.Frag) (ω0 : Wd) (H0 : Hp) (D : Addr) (f : PV → Cel → R (Option PV)) (xs : List PV) (full : List PV) (stF : Cel) (i : Nat) (H : Hp) : Prop where
  ex : ∃ ω st vs ys rest, ExtE ω0 H0 ω H ∧ CelOk K ω st H ∧ H D = some (.lst vs) ∧ ¬ ω.S D ∧ D ∉ ω.cs ∧ RepL K ω H vs ys ∧ compL f (xs.drop i) st = .ok rest stF ∧ full = ys ++ rest
/-- a turn's own computation -/
def turnF (Φ : Nat → List PV → Cel → R PV) (elt : C) (tg : List Nat) (ifs : Cs) (own : List Nat) (ρ : En) : PV → Cel → R (Option PV) := fun x st => match assignT tg x (wipeE ρ own) with
  | some ρ1 => (evt Φ ifs ρ1 st).bind fun b st => if b then (ev Φ elt ρ1 st).bind fun y st => .ok (some y) st else .ok none st
  | none => .bad
theorem drop_cons {α : Type} {xs : List α} {i : Nat} {x : α} (h : xs[i]? = some x) : xs.drop i = x :: xs.drop (i + 1) := by
  have hi : i < xs.length := by
    rcases Nat.lt_or_ge i xs.length with z | z
    · exact z
    · rw [List.getElem?_eq_none z] at h; cases h
  rw [List.drop_eq_getElem_cons hi]
  rw [List.getElem?_eq_getElem hi] at h
  rw [Option.some.inj h]
theorem comp_w {Φ : Nat → List PV → Cel → R PV} {elt : C} {tg own : List Nat} {it : C} {ifs : Cs} (hsub : ∀ i ∈ tg, i ∈ own) : ∀ σ H Q, tvF K W (ev Φ (.comp elt tg it ifs own)) σ H Q →
    tLc (ti K true W (ev Φ it)) (gAsg K tg) (tvbb K W0 (evt Φ ifs)) (tv K false W0 (ev Φ elt)) own σ H Q := by
  intro σ H Q ⟨g, ω, ρ, st, rel, h⟩
  have hd : ev Φ (.comp elt tg it ifs own) ρ st = (ev Φ it ρ st).bind fun iv st => match itemsOf iv with
    | some xs => (compL (turnF Φ elt tg ifs own ρ) xs st).bind fun ys st => if szOk ys.length then .ok (.lst ys) st else .bad
    | none => .bad := by
    rw [ev]
    rfl
  rw [hd] at h
  refine ⟨g, ω, ρ, st, rel, ?_⟩
  cases e1 : ev Φ it ρ st with
  | bad => rw [e1] at h; exact h.elim
  | exc x s => rw [e1] at h; exact h
  | ok iv s =>
    rw [e1] at h
    simp only [R.bind_ok] at h
    cases e2 : itemsOf iv with
    | none => rw [e2] at h; exact h.elim
    | some xs =>
      rw [e2] at h
      refine ⟨xs, e2, fun J H1 ω1 x1 c1 hJ D hD => ?_⟩
      dsimp only at h
      cases e3 : compL (turnF Φ elt tg ifs own ρ) xs s with
      | bad => rw [e3] at h; exact h.elim
      | exc x s3 =>
        exfalso
        have : ∀ (l : List PV) (s : Cel), compL (turnF Φ elt tg ifs own ρ) l s ≠ .exc x s3 := by
          intro l
          induction l with
          | nil => intro s z; cases z
          | cons y ys ih =>
            intro s z
            unfold compL at z
            split at z
            · rename_i o st1 _
              cases q : compL (turnF Φ elt tg ifs own ρ) ys st1 with
              | ok l2 s2 => rw [q] at z; cases z
              | exc x2 s2 => rw [q] at z; cases z; exact ih st1 q
              | bad => rw [q] at z; cases z
            · cases z
        exact this xs s e3
      | ok full stF =>
        rw [e3] at h
        simp only [R.bind_ok] at h
        have hz : szOk full.length = true := by
          cases q : szOk full.length with
          | true => rfl
          | false => rw [q] at h; exact h.elim
        rw [if_pos hz] at h
        have hz' := szOk_le hz
        have nS : ¬ ω1.S D := fun z => by
          obtain ⟨o, q⟩ := c1.trk D z
          rw [hD] at q; cases q
        have nC : D ∉ ω1.cs := fun z => by
          obtain ⟨o, q⟩ := c1.lstAt z
          rw [hD] at q; cases q
        refine ⟨fun i m H => m = xs.length - i ∧ i ≤ xs.length ∧ Lc K ω1 H1 D (turnF Φ elt tg ifs own ρ) xs full stF i H, ⟨xs.length, by simp, Nat.zero_le _, ?_⟩, ?_⟩
        · refine ⟨ω1, s, [], [], full, (Grow.upd hD).toE, c1.grow (Grow.upd hD), upd_same, nS, nC, .nil, e3, rfl⟩
        · rintro i m H2 ⟨rfl, hi, ⟨ω2, st2, vs, ys, rest, x2, c2, hD2, nS2, nC2, r2, e4, e5⟩⟩
          obtain ⟨go, stop, yld⟩ := hJ ω2 H2 (x2.ext c1) (fun _ => x2)
          rcases Nat.lt_or_ge i xs.length with hlt | hge
          rotate_left
          · have ei : i = xs.length := by omega
            subst ei
            rw [List.drop_length] at e4
            cases e4
            rw [List.append_nil] at e5
            subst e5
            refine .inl ⟨stop, ?_⟩
            refine h _ _ ω2 (x1.trans x2) c2 ⟨D, vs, full, rfl, rfl, x1.none hD, hD2, nS2, nC2, r2⟩
          · refine .inr ⟨go i hlt, fun H' => i + 1 ≤ xs.length ∧ Lc K ω1 H1 D (turnF Φ elt tg ifs own ρ) xs full stF (i + 1) H', fun H' hN => ⟨xs.length - (i + 1), by omega, rfl, hN.1, hN.2⟩, fun x H3 hy => ?_⟩
            obtain ⟨ω3, t, w3, ex, rx⟩ := yld i x H3 hlt hy
            have hD3 : H3 D = some (.lst vs) := w3.keep _ _ hD2
            have nS3 : ¬ ω3.S D := fun z => by
              rcases w3.new D z with z | ⟨z, _⟩
              · exact nS2 z
              · rw [hD2] at z; cases z
            have nC3 : D ∉ ω3.cs := by rw [w3.cs]; exact nC2
            have rel3 : Rel K g ω3 ρ st2 σ H3 := (((rel.extE x1 c1).extE x2 c2)).grow w3
            have x3 : ExtE ω1 H1 ω3 H3 := x2.trans w3.toE
            have r3 := r2.mono w3.ext
            rw [drop_cons ex] at e4
            unfold compL at e4
            -- the target
            cases ea : assignT tg t (wipeE ρ own) with
            | none =>
              unfold turnF at e4
              rw [ea] at e4
              cases e4
            | some ρ1 =>
              have ef : turnF Φ elt tg ifs own ρ t st2 = (evt Φ ifs ρ1 st2).bind fun b st => if b then (ev Φ elt ρ1 st).bind fun y st => .ok (some y) st else .ok none st := by
                unfold turnF
                rw [ea]
              rw [ef] at e4
              refine gAsg_ok (rel3.wipe own) rx ea fun ws relT => ⟨wipe_tgS hsub, ?_⟩
              -- the tests
              refine ⟨g, ω3, ρ1, st2, relT, ?_⟩
              cases et : evt Φ ifs ρ1 st2 with
              | bad => rw [et] at e4; cases e4
              | exc x4 s4 => rw [et] at e4; cases e4
              | ok bv s4 =>
                rw [et] at e4
                simp only [R.bind_ok] at e4
                intro b4 H4 ω4 x4 c4 pb
                cases (show bv = b4 from pb)
                have hD4 : H4 D = some (.lst vs) := x4.keep _ _ hD3 nC3
                have nS4 : ¬ ω4.S D := fun z => by
                  rcases x4.newS D z with z | z
                  · exact nS3 z
                  · rw [hD3] at z; cases z
                have nC4 : D ∉ ω4.cs := fun z => by
                  rcases x4.newC D z with z | z
                  · exact nC3 z
                  · rw [hD3] at z; cases z
                have r4 := r3.mono (x4.ext relT.cells)
                cases bv with
                | false =>
                  rw [if_neg Bool.false_ne_true]
                  simp only [Bool.false_eq_true, if_false] at e4
                  cases e6 : compL (turnF Φ elt tg ifs own ρ) (xs.drop (i + 1)) s4 with
                  | bad => rw [e6] at e4; cases e4
                  | exc x6 s6 => rw [e6] at e4; cases e4
                  | ok rest' s6 =>
                    rw [e6] at e4
                    cases e4
                    exact ⟨hlt, ⟨ω4, s4, vs, ys, rest, x3.trans x4, c4, hD4, nS4, nC4, r4, e6, e5⟩⟩
                | true =>
                  rw [if_pos rfl]
                  simp only [if_true] at e4
                  refine ⟨g, ω4, ρ1, s4, relT.extE x4 c4, ?_⟩
                  cases ev5 : ev Φ elt ρ1 s4 with
                  | bad => rw [ev5] at e4; cases e4
                  | exc x6 s6 => rw [ev5] at e4; cases e4
                  | ok yv s5 =>
                    rw [ev5] at e4
                    simp only [R.bind_ok] at e4
                    intro y H5 ω5 x5 c5 py
                    have hD5 : H5 D = some (.lst vs) := x5.keep _ _ hD4 nC4
                    have nS5 : ¬ ω5.S D := fun z => by
                      rcases x5.newS D z with z | z
                      · exact nS4 z
                      · rw [hD4] at z; cases z
                    have nC5 : D ∉ ω5.cs := fun z => by
                      rcases x5.newC D z with z | z
                      · exact nC4 z
                      · rw [hD4] at z; cases z
                    have r5 := r4.mono (x5.ext c4)
                    cases e6 : compL (turnF Φ elt tg ifs own ρ) (xs.drop (i + 1)) s5 with
                    | bad => rw [e6] at e4; cases e4
                    | exc x6 s6 => rw [e6] at e4; cases e4
                    | ok rest' s6 =>
                      rw [e6] at e4
                      cases e4
                      refine ⟨vs, hD5, ?_, hlt, ⟨ω5, s5, vs ++ [y], ys ++ [yv], rest', ?_, c5.upd hD5 nS5 nC5, upd_same, nS5, nC5, ?_, e6, by rw [e5]; simp⟩⟩
                      · rw [r5.length]
                        have := congrArg List.length e5
                        simp at this
                        omega
                      · exact ((x3.trans x4).trans x5).updNew hD
                      · exact (r5.mono (extUpd hD5 nS5)).append (.cons (py.rep.mono (extUpd hD5 nS5)) .nil)
theorem sF_comp {Φ : Nat → List PV → Cel → R PV} {elt : C} {tg own : List Nat} {it : C} {ifs : Cs} (hpe : PE X e (tLc (ti X.K true W (ev Φ it)) (gAsg X.K tg) (tvbb X.K W0 (evt Φ ifs)) (tv X.K false W0 (ev Φ elt)) own)) (hsub : ∀ i ∈ tg, i ∈ own) :
    PE X e (tvF X.K W (ev Φ (.comp elt tg it ifs own))) := wPE hpe (comp_w hsub)
end
end Ev
namespace Ev
open PySem L2
section
variable {X : Cx} {W : Wx} {e a b : Expr} {K : PySem.W.Frag} {g : Gh} {ω ω' : Wd} {ρ : En} {st st' : Cel} {σ : St} {H H' : Hp}
/-! ### repr of a display -/
def rRepr (K : PySem.W.Frag) : List V → Hp → VK → Prop := fun xs H Q => ∃ x d, xs = [x] ∧ Dp K H x d ∧ PyProof.Rows.isDisplay d = true ∧ d.showable = true ∧ d.hasDict = false ∧ d.depth ≤ 60 ∧ d.shown.length ≤ sizeLine ∧ Q (.str d.shown) H
theorem cr_repr (hg : X.A.guards = some []) (hu : X.A.units + 64 < cLine) : CallR X (.builtin "repr") (rRepr X.K) := by
  intro pins s σ H xs us Q I r h
  obtain ⟨x, d, rfl, dp, h1, h2, h3, h4, h5, q⟩ := h
  cases r with
  | cons rx rt =>
    cases rt
    obtain ⟨as, rd⟩ := Dp.reads I d _ _ dp rx
    obtain ⟨p, rfl⟩ := PyProof.Rows.isRef_of_reads rd h1
    exact PySem.repr_of_reads' rd h2 (PyData.noDict_hsm h3) hg (by omega) (fun _ _ z => z) (fun h' u tk hk => ⟨.str d.shown, H, I.kept hk, ⟨_, rfl⟩, q⟩) h5
theorem vr_repr : VR1 K true (rC1 (rRepr K)) (fun _ => reprV) := by
  intro st x t z ω H Q c hx hv q
  dsimp only at hv
  unfold reprV at hv
  split at hv
  · rename_i d hd
    split at hv
    · rename_i hz
      cases hv
      simp only [Bool.and_eq_true, decide_eq_true_eq, Bool.not_eq_true'] at hz
      exact ⟨x, d, rfl, hx.dp hd, hz.1.1.1.1, hz.1.1.1.2, hz.1.1.2, hz.1.2, szOk_le hz.2, q _ _ ω (Grow.refl ω H) (.str _)⟩
    · cases hv
  · cases hv
/-! ### l.index(x) -/
theorem indexD_some {d : PyData} : ∀ {zs : List PyData} {i j : Nat}, indexD d zs i = some j → ∃ n z, j = i + n ∧ zs[n]? = some z ∧ PyData.eqv z d = true ∧ ∀ m z', m < n → zs[m]? = some z' → PyData.eqv z' d = false
  | [], _, _, h => by cases h
  | z :: zs, i, j, h => by
    unfold indexD at h
    split at h
    · rename_i hz
      cases h
      exact ⟨0, z, rfl, rfl, hz, fun m _ hm => absurd hm (Nat.not_lt_zero _)⟩
    · rename_i hz
      obtain ⟨n, y, e1, e2, e3, e4⟩ := indexD_some h
      refine ⟨n + 1, y, by omega, by simpa using e2, e3, fun m z' hm hz' => ?_⟩
      cases m with
      | zero => simp at hz'; subst hz'; simpa using hz
      | succ m => exact e4 m z' (by omega) (by simpa using hz')
theorem se_index {f f' : En → Cel → R PV} {bz : Bool} (hpe : ∀ ta tb, PE X a ta → PE X b tb → PE X e (tBM X.K "list" (rIndexD X.K) ta (tCons tb tNil))) (ha : PE X a (tv X.K true W f)) (hb : PE X b (tv X.K true W f')) :
    PE X e (tv X.K bz W fun ρ st => (f ρ st).bind fun x st => match x with
      | .lst xs => (f' ρ st).bind fun y st => R.of (indexV (.lst xs) y) st
      | _ => .bad) := by
  refine wPE (hpe _ _ ha hb) fun σ H Q ⟨g, ω, ρ, st, rel, h⟩ => ?_
  -- the list is told by the answer
  refine (bindG (P := RepM X.K true) rel h).mono fun x H1 ⟨ω1, st1, t, x1, rel1, p, q⟩ => ?_
  cases t with
  | lst ts =>
    obtain ⟨l, vs, rfl, hl, rl⟩ := p.lst
    refine ⟨.inl ⟨rfl, vs, .inl (.inl hl)⟩, ?_⟩
    refine (bindG (P := RepM X.K true) (f := f') rel1 q).mono fun y H2 ⟨ω2, st2, u, x2, rel2, p2, q2⟩ => ?_
    obtain ⟨z, ez, qz⟩ := of_post rel2 q2
    have pp := p.extE x2 rel1.cells
    unfold indexV at ez
    split at ez
    · rename_i ds d hd he
      split at ez
      · rename_i hz
        simp only [Bool.and_eq_true] at hz
        cases ei : indexD d ds 0 with
        | none => rw [ei] at ez; cases ez
        | some j =>
          rw [ei] at ez
          cases ez
          obtain ⟨n, zz, e1, e2, e3, e4⟩ := indexD_some ei
          obtain rfl : j = n := by omega
          exact ⟨l, y, d, ds, j, zz, rfl, rfl, pp.dp hd, p2.dp he, hz.1, hz.2, e2, e3, e4, qz _ _ ω2 (Grow.refl _ _) (.int _)⟩
      · cases ez
    · cases ez
  | _ => exact q.elim
/-! ### dicts: a display, frozen for good -/
theorem valP_get : ∀ {kvs : List (Key × V)} {ts : List PV} {k : Key} {t : PV}, RepL K ω H (kvs.map (·.2)) ts → valP (kvs.map (·.1)) ts k = some t → ∃ v, valV kvs k = some v ∧ Rep K ω H v t
  | [], _, _, _, .nil, h => by cases h
  | q :: r, _, k, t, .cons h1 h2, h => by
    rw [List.map_cons, valP] at h
    split at h
    · rename_i e
      cases h
      exact ⟨q.2, valV_pos e, h1⟩
    · rename_i e
      obtain ⟨v, e1, e2⟩ := valP_get h2 h
      exact ⟨v, by rw [valV_neg e]; exact e1, e2⟩
theorem keyP_v {b : Bool} {y : V} {u : PV} {k : Key} (h : RepM K b ω H y u) (e : keyP u = some k) : y = kV k := by
  cases u with
  | int i => cases e; exact h.int
  | str x => cases e; exact h.str
  | _ => cases e
theorem se_dget {f f' : En → Cel → R PV} {bz : Bool} (hpe : ∀ ta tb, PE X a ta → PE X b tb → PE X e (tDGet ta tb)) (ha : PE X a (tv X.K true W f)) (hb : PE X b (tv X.K true W f')) :
    PE X e (tv X.K bz W fun ρ st => (f ρ st).bind fun x st => (f' ρ st).bind fun y st => R.of (dgetV x y) st) := by
  refine wPE (hpe _ _ ha hb) fun σ H Q ⟨g, ω, ρ, st, rel, h⟩ => (bindG (P := RepM X.K true) rel h).mono fun x H1 ⟨ω1, st1, t, x1, rel1, p, q⟩ => ?_
  refine (bindG (P := RepM X.K true) (f := f') rel1 q).mono fun y H2 ⟨ω2, st2, u, x2, rel2, p2, q2⟩ => ?_
  obtain ⟨z, ez, qz⟩ := of_post rel2 q2
  have pp := p.extE x2 rel1.cells
  unfold dgetV at ez
  split at ez
  · rename_i ks ts
    obtain ⟨d, o, kvs, rfl, hd, rfl, rv⟩ := pp.dct
    split at ez
    · rename_i k ek
      obtain ⟨v, e1, e2⟩ := valP_get rv ez
      exact ⟨d, v, rfl, .inl ⟨kvs, k, .inr ⟨o, hd⟩, keyP_v p2 ek, e1.symm⟩, qz _ _ ω2 (Grow.refl _ _) e2⟩
    · cases ez
  · cases ez
/-- behind an expression that makes a new dict: it is locked for good -/
def tFrz (t : TE) : TE := fun σ H Q => t σ H fun v H1 => ∃ p u, v = .ref p ∧ H1 p = some u ∧ Mut (some u) ∧ ∀ od, Q v (upd H1 p (.frz od u))
theorem pe_frz {t : TE} (h : PE X e t) : PE X e (tFrz t) := ⟨fun pins s σ H Q I q => thn (h.run pins s σ H _ I q) fun v s1 ⟨x, H1, I1, r, p, u, e1, e2, mu, q1⟩ => by
  obtain ⟨od, I2⟩ := I1.lock e2 mu
  exact ⟨x, _, I2, r, q1 od⟩⟩
/-- pairs, one behind the other -/
def unP : List (V × V) → List V
  | [] => []
  | q :: r => q.1 :: q.2 :: unP r
def RPs (K : PySem.W.Frag) : RX (List PV) (List (V × V)) := fun ω H ps ts => RepL K ω H (unP ps) ts
theorem pairsP_v : ∀ {ps : List (V × V)} {ts : List PV} {ks : List Key} {us : List PV}, RepL K ω H (unP ps) ts → pairsP ts = some (ks, us) → ∃ kvs : List (Key × V), ps = kvs.map (fun kv => (kV kv.1, kv.2)) ∧ kvs.map (·.1) = ks ∧ RepL K ω H (kvs.map (·.2)) us
  | [], _, _, _, .nil, h => by cases h; exact ⟨[], rfl, rfl, .nil⟩
  | q :: r, _, ks, us, .cons h1 (.cons h2 h3), h => by
    rename_i t1 t2 t3
    rw [pairsP] at h
    split at h
    · rename_i k q' e1 e2
      cases h
      obtain ⟨kvs, e3, e4, e5⟩ := pairsP_v (ks := q'.1) (us := q'.2) h3 (by rw [e2])
      refine ⟨(k, q.2) :: kvs, ?_, by rw [List.map_cons, e4], .cons h2 e5⟩
      rw [List.map_cons, ← e3]
      have := keyP_v (b := false) (.inl h1) e1
      rw [← this]
    · cases h
theorem mergeK_id : ∀ {kvs acc : List (Key × V)}, (kvs.map (·.1)).Nodup → (∀ k ∈ kvs.map (·.1), k ∉ acc.map (·.1)) → mergeK acc kvs = acc ++ kvs
  | [], acc, _, _ => by simp [mergeK]
  | q :: r, acc, nd, hx => by
    have h0 : q.1 ∉ acc.map (·.1) := hx _ (by simp)
    have hv : valV acc q.1 = none := by
      unfold valV
      rw [Option.map_eq_none_iff, List.find?_eq_none]
      intro z hz he
      exact h0 (List.mem_map.mpr ⟨z, hz, of_decide_eq_true he⟩)
    show mergeK (putK acc q.1 q.2) r = _
    rw [putK_new q.2 hv]
    rw [List.map_cons, List.nodup_cons] at nd
    rw [mergeK_id nd.2 (fun k hk z => by
      rw [List.map_append] at z
      rcases List.mem_append.mp z with z | z
      · exact hx k (by rw [List.map_cons]; exact List.mem_cons_of_mem _ hk) z
      · simp at z
        subst z
        exact nd.1 hk)]
    simp
/-- the pairs of a display -/
structure SPs (X : Cx) (W : Wx) (pos : Pos) (keys : List (Option Expr)) (values : List Expr) (f : En → Cel → R (List PV)) : Prop where
  ex : ∃ trs, PPs X pos keys values trs ∧ ∀ σ H Q, tG (RPs X.K) X.K W f σ H Q → tPairs trs σ H Q
theorem sp_nil {pos : Pos} : SPs X W pos [] [] (fun _ st => .ok [] st) := ⟨[], pps_nil, fun σ H Q ⟨g, ω, ρ, st, rel, q⟩ => postOk (x := ([] : List (V × V))) rel q .nil⟩
theorem sp_cons {pos : Pos} {k v : Expr} {ks : List (Option Expr)} {vs : List Expr} {f f' : En → Cel → R PV} {fr : En → Cel → R (List PV)} (hk : PE X k (tv X.K false W f)) (hv : PE X v (tv X.K false W f')) (hr : SPs X W pos ks vs fr) :
    SPs X W pos (some k :: ks) (v :: vs) (fun ρ st => (f ρ st).bind fun x st => ((f' ρ st).bind fun x st => (fr ρ st).bind fun xs st => .ok (x :: xs) st).bind fun xs st => .ok (x :: xs) st) := by
  obtain ⟨trs, p1, w1⟩ := hr.ex
  refine ⟨_ :: trs, pps_cons hk hv p1, fun σ H Q ⟨g, ω, ρ, st, rel, h⟩ => (bindG (P := RepM X.K false) rel h).mono fun x H1 ⟨ω1, st1, t, x1, rel1, p, q⟩ => ?_⟩
  have ea : ∀ r : R PV, ((r.bind fun x st => (fr ρ st).bind fun xs st => R.ok (x :: xs) st).bind fun xs st => R.ok (t :: xs) st) = r.bind fun y st => (fr ρ st).bind fun xs st => .ok (t :: y :: xs) st := fun r => by
    cases r with
    | ok y s => simp only [R.bind_ok]; cases fr ρ s <;> rfl
    | exc e s => rfl
    | bad => rfl
  rw [ea] at q
  refine (bindG (P := RepM X.K false) (f := f') rel1 q).mono fun y H2 ⟨ω2, st2, u, x2, rel2, p2, q2⟩ => ?_
  refine w1 _ _ _ ((bindG (P := RPs X.K) (f := fr) rel2 q2).mono fun ps H3 ⟨ω3, st3, ts, x3, rel3, p3, q3⟩ => ?_)
  exact postOk (x := (x, y) :: ps) rel3 q3 (.cons ((p.extE x2 rel1.cells).extE x3 rel2.cells).rep (.cons (p2.extE x3 rel2.cells).rep p3))
theorem Grow.updE {p : Addr} {o : HO} (h : H p = none) : ExtE ω H ω (L2.upd H p o) := (Grow.upd h).toE
theorem se_dct {pos : Pos} {keys : List (Option Expr)} {values : List Expr} {f : En → Cel → R (List PV)} {bz : Bool} (hp : SPs X W pos keys values f) (h1 : keys.all (·.isSome) = true) (h2 : keys.length = values.length) (h3 : keys ≠ []) (h4 : keys.length ≤ 15) :
    PE X (.Dict keys values pos) (tv X.K bz W fun ρ st => (f ρ st).bind fun xs st => R.of (dctV xs) st) := by
  obtain ⟨trs, p1, w1⟩ := hp.ex
  refine wPE (pe_frz (pe_disp p1 h1 h2 h3 h4)) fun σ H Q ⟨g, ω, ρ, st, rel, h⟩ p hp => ?_
  have rel0 := rel.grow (Grow.upd (ω := ω) (o := .dK []) hp)
  have np : p ∉ ω.cs := fun z => by
    obtain ⟨vs, z⟩ := rel.cells.lstAt z
    rw [hp] at z; cases z
  have ns : ¬ ω.S p := fun z => by
    obtain ⟨o, z⟩ := rel.cells.trk p z
    rw [hp] at z; cases z
  refine w1 _ _ _ ⟨g, ω, ρ, st, rel0, ?_⟩
  dsimp only at h
  cases ef : f ρ st with
  | bad => rw [ef] at h; exact h
  | exc x s =>
    rw [ef] at h
    exact fun H' ω' y c => h H' ω' ((Grow.updE hp).trans y) c
  | ok ts s =>
    rw [ef] at h
    intro ps H2 ω2 x2 c2 pr
    have e2 : H2 p = some (.dK []) := x2.keep p _ upd_same np
    have ns2 : ¬ ω2.S p := fun z => by
      rcases x2.newS p z with z | z
      · exact ns z
      · rw [upd_same] at z; cases z
    have np2 : p ∉ ω2.cs := fun z => by
      rcases x2.newC p z with z | z
      · exact np z
      · rw [upd_same] at z; cases z
    simp only [R.bind_ok] at h
    cases ed : dctV ts with
    | none => rw [ed] at h; exact h.elim
    | some z =>
      rw [ed] at h
      unfold dctV at ed
      split at ed
      · rename_i pq epq
        split at ed
        · rename_i hz
          cases ed
          obtain ⟨kvs, k1, k2, k3⟩ := pairsP_v (ks := pq.1) (us := pq.2) pr epq
          have hl : kvs.length ≤ 15 := by
            have := hz.2
            rw [← k2, List.length_map] at this
            exact this
          refine ⟨e2, kvs, k1, hl, p, .dK (mergeK [] kvs), rfl, upd_same, trivial, fun od => ?_⟩
          have em : mergeK [] kvs = kvs := by
            rw [mergeK_id (by rw [k2]; exact hz.1) (by simp)]
            rfl
          rw [em]
          have hu : upd (upd H2 p (.dK kvs)) p (.frz od (.dK kvs)) = upd H2 p (.frz od (.dK kvs)) := by
            funext b
            unfold upd
            split <;> rfl
          rw [hu]
          have xt : Ext ω2 H2 ω2 (upd H2 p (.frz od (.dK kvs))) := by
            refine ⟨fun _ z => z, ⟨[], by simp⟩, fun a o ea sa => ?_⟩
            have : a ≠ p := fun z => by
              subst z
              rcases sa with sa | sa
              · exact ns2 sa
              · rw [e2] at ea; cases ea; exact sa
            rw [upd_ne this]; exact ea
          have ne : ∀ a o, H a = some o → a ≠ p := fun a o ea z => by rw [z, hp] at ea; cases ea
          have ex : ExtE ω H ω2 (upd H2 p (.frz od (.dK kvs))) := by
            have y := (Grow.updE (ω := ω) (o := .dK []) hp).trans x2
            refine ⟨y.sub, y.cs, fun a o ea na => by rw [upd_ne (ne a o ea)]; exact y.keep a o ea na, y.newS, y.newC, fun a o ea => ?_⟩
            rw [upd_ne (ne a o ea)]
            exact y.there a o ea
          have cc : CelOk X.K ω2 s (upd H2 p (.frz od (.dK kvs))) := by
            refine ⟨c2.len, c2.nd, c2.out, fun a z => ?_, fun k a ha => ?_⟩
            · rw [upd_ne (fun e => ns2 (by rw [← e]; exact z))]; exact c2.trk a z
            · obtain ⟨vs, us, q1, q2, q3⟩ := c2.at_ k a ha
              exact ⟨vs, us, q1, by rw [upd_ne (fun e => np2 (by rw [← e]; exact List.mem_of_getElem? ha))]; exact q2, q3.mono xt⟩
          refine h _ _ ω2 ex cc (.inl ?_)
          rw [← k2]
          exact .dct upd_same (k3.mono xt)
        · cases ed
      · cases ed
end
end Ev
namespace Ev
open PySem PySem.Spec PyProof.Rows PySem.W
/-! ### a, b, *rest = tuple -/
theorem star_items {prog : Program} {w : World} {A : Around} {E : Value → Shared → Prop} {s : Shared} {l : Addr} {its : Array Value} {n : Nat} {Q : List Value → Shared → Prop} (hl : IsTup s.heap l its) (hh : A.handled = none) (hn : n ≤ its.size) (hz : its.size ≤ 16384)
    (h : ∀ (h2 : Heap) tk, (∀ b o, s.heap.get? b = some o → h2.get? b = some o) → Q (its.toList.take n ++ [.ref h2.objs.size]) { s with heap := h2.push { cls := .type "list", data := .seq (its.toList.drop n).toArray }, toks := tk }) :
    wpAny (model prog w) A (unpackItems (.ref l) (n + 1) (some n)) Q E s := by
  have hll : l < s.heap.objs.size := by
    obtain ⟨o, ho, _⟩ := hl
    exact Heap.lt_size ho
  have nel : l ≠ s.heap.objs.size := Nat.ne_of_lt hll
  unfold unpackItems notIterableAtAll
  refine wpAny_bind (wpAny_bind (wpAny_specialOf hl.typeIs slot_tuple_iter.lookup (wpAny_pure ?_)))
  rw [if_neg Bool.false_ne_true]
  refine wpAny_bind (wpAny_holding (iter_tuple hl (wpAny_bind (wpAny_holding ?_))))
  refine draw_tuple nel n 0 _ _ ⟨_, Heap.get?_push_size _ rfl, rfl, rfl⟩ (hl.push _) (by omega) fun h1 it1 same => ?_
  have t1 : IsTup h1 l its := (hl.push _).extBut same.extBut nel
  rw [Nat.zero_add] at it1
  rw [List.drop_zero]
  obtain ⟨oi, goi, _⟩ := id it1
  obtain ⟨ol, gol, _⟩ := id t1
  have lt : (its.toList.take n).length = n := by
    rw [List.length_take, Array.length_toList]
    omega
  have ld : (its.toList.drop n).length = its.size - n := by rw [List.length_drop, Array.length_toList]
  rw [if_neg (by rw [lt]; exact Nat.lt_irrefl n)]
  refine wpAny_bind (wpAny_holding ?_)
  refine kun_collect (s := { s with heap := h1 }) (T := "tuple_iterator") (.inr (.inr (.inr rfl))) (Walks.tuple (A := A.in1) hh s.heap.objs.size l nel its) (fun _ _ z => z.1.typeIs) hn ⟨it1, t1⟩ (Heap.lt_size goi) (Heap.lt_size gol) (fun h2 tk kp => ?_) (by rw [sizeLine_eq]; omega)
  show wpAny _ _ (if (its.toList.drop n).length < n + 1 - 1 - n then _ else _) _ _ _
  have e0 : n + 1 - 1 - n = 0 := by omega
  rw [e0, if_neg (Nat.not_lt_zero _)]
  show wpAny _ _ (newList ((its.toList.drop n).take ((its.toList.drop n).length - 0)) >>= fun d => pure (its.toList.take n ++ [d] ++ (its.toList.drop n).drop ((its.toList.drop n).length - 0))) _ _ _
  rw [Nat.sub_zero, List.take_length, List.drop_length]
  have old : ∀ b o, s.heap.get? b = some o → h2.get? b = some o := fun b o e => by
    have nb : b ≠ s.heap.objs.size := Nat.ne_of_lt (Heap.lt_size e)
    exact kp b o nb (same.extBut b o nb (Heap.get?_push_of_some _ e))
  refine wpAny_bind (wpAny_newList (wpAny_pure ?_) (by rw [ld, sizeLine_eq]; omega))
  rw [List.append_nil]
  exact h h2 tk old
end Ev
namespace Ev
open PySem L2
def gStar (K : PySem.W.Frag) (n : Nat) (t : TGs) : TG := fun v σ H Q => ∃ a xs, v = .ref a ∧ SqT K H a xs ∧ n ≤ xs.length ∧ xs.length ≤ 16384 ∧ ∀ D, H D = none → t (xs.take n ++ [.ref D]) σ (upd H D (.lst (xs.drop n))) Q
theorem pg_star {X : Cx} {es : List Expr} {k n : Nat} {pos : Pos} {t : TGs} (hc : X.calm = true) (h : PGs X es t) (hn : (assignEach es X.env).length = n + 1) (hst : (assignEach es X.env).findIdx? (·.1) = some n) : PG X (.Tuple es k pos) (gStar X.K n t) := by
  refine ⟨fun pins s σ H v u Q I r ⟨a, xs, e1, hq, hl, hz, hw⟩ => ?_⟩
  subst e1
  cases r
  obtain ⟨its, rv, ht, hs⟩ := I.tuple hq
  have le : its.toArray.size = xs.length := by rw [List.size_toArray, rv.length]
  rw [PyProof.Rows.assign_Tuple]
  refine wpAny_bind (wpAny_standAt ?_)
  unfold unpack
  rw [hn, hst]
  refine wpAny_bind (wpAny_holding (star_items ht (I.ok.hd hc) (by omega) (by omega) fun h2 tk old => ?_))
  have I2 : Inv X pins σ H { s with heap := h2, toks := tk } := I.kept old
  have I3 := I2.laid (a := h2.objs.size) (o := .lst (xs.drop n)) (h' := h2.push { cls := .type "list", data := .seq (its.drop n).toArray }) (t' := tk) (fun _ _ q => Heap.get?_push_of_some _ q) (Nat.le_refl _)
    ⟨by rw [List.length_drop]; have := sizeLine_eq; omega, its.drop n, 0, rv.drop n, Heap.get?_push_size _ rfl⟩
  exact h.run pins _ σ _ _ _ Q I3 ((rv.take n).append (.cons (show RelV (.ref h2.objs.size) (.ref h2.objs.size) from rfl) .nil)) (hw _ (I2.hok.fresh (Nat.le_refl _)))
end Ev
namespace Ev
open PySem L2
/-! ### views of the syntax -/
def asName : Expr → Option Str
  | .Name x _ => some x
  | _ => none
def asConst : Expr → Option Const
  | .Constant c _ _ => some c
  | _ => none
def asBin : Expr → Option (Expr × Operator × Expr)
  | .BinOp l o r _ => some (l, o, r)
  | _ => none
def asUn : Expr → Option (UnaryOp × Expr)
  | .UnaryOp o x _ => some (o, x)
  | _ => none
def asBool : Expr → Option (BoolOp × List Expr × Pos)
  | .BoolOp o xs p => some (o, xs, p)
  | _ => none
def asCmp : Expr → Option (Expr × CmpOp × Expr)
  | .Compare l [o] [r] _ => some (l, o, r)
  | _ => none
def asIf : Expr → Option (Expr × Expr × Expr)
  | .IfExp c a b _ => some (c, a, b)
  | _ => none
def asTup : Expr → Option (List Expr)
  | .Tuple es _ _ => some es
  | _ => none
def asLst : Expr → Option (List Expr)
  | .List es _ => some es
  | _ => none
def asCall : Expr → Option (Str × List Expr)
  | .Call (.Name x _) es [] _ => some (x, es)
  | _ => none
def asSub : Expr → Option (Expr × Expr)
  | .Subscript a i _ => some (a, i)
  | _ => none
def asSlice : Expr → Option (Option Expr × Option Expr × Option Expr)
  | .Slice a b c _ => some (a, b, c)
  | _ => none
def asLc : Expr → Option (Expr × Expr × Expr × List Expr × Scope)
  | .ListComp elt [⟨tg, it, ifs, 0⟩] sc _ => some (elt, tg, it, ifs, sc)
  | _ => none
def asDct : Expr → Option (List (Option Expr) × List Expr × Pos)
  | .Dict ks vs p => some (ks, vs, p)
  | _ => none
/-- x.name(e), on one line -/
def asMeth : Expr → Option (Expr × Str × Expr)
  | .Call (.Attribute o n ap) [x] [] cp => if ap.endLine == cp.line then some (o, n, x) else none
  | _ => none
/-- what a method may be asked of, as it stands -/
def plainO : Expr → Bool
  | .Name .. => true
  | .Call _ (_ :: _) _ _ => true
  | .Subscript .. => true
  | .List .. => true
  | .Tuple .. => true
  | _ => false
def asStar : Expr → Option Expr
  | .Starred e _ => some e
  | _ => none
def isSet : Expr → Bool
  | .Set .. => true
  | _ => false
/-- a test is read by its value -/
def plainT : Expr → Bool
  | .UnaryOp .Not _ _ => false
  | .BoolOp .. => false
  | .IfExp .. => false
  | .Compare .. => false
  | _ => true
section
variable {e : Expr}
theorem asDct_eq {ks : List (Option Expr)} {vs : List Expr} {p : Pos} (h : asDct e = some (ks, vs, p)) : e = .Dict ks vs p := by
  cases e <;> first | (simp [asDct] at h; done) | (cases h; rfl)
theorem asMeth_eq {e o x : Expr} {n : Str} (h : asMeth e = some (o, n, x)) : ∃ ap cp, e = .Call (.Attribute o n ap) [x] [] cp ∧ (ap.endLine == cp.line) = true := by
  unfold asMeth at h
  split at h
  · split at h
    · rename_i hz; cases h; exact ⟨_, _, rfl, hz⟩
    · cases h
  · cases h
theorem plainO_of {n : Str} {env : Env} (h : plainO e = true) : attributeBase e n env (eval e env) = eval e env := by
  cases e <;> first
    | rfl
    | (simp [plainO] at h; done)
    | (rename_i f as kws p
       cases as with
       | nil => simp [plainO] at h
       | cons x xs => cases f <;> rfl)
theorem asName_eq {x : Str} (h : asName e = some x) : ∃ p, e = .Name x p := by
  cases e <;> first | (simp [asName] at h; done) | (cases h; exact ⟨_, rfl⟩)
theorem asConst_eq {x : Const} (h : asConst e = some x) : ∃ k p, e = .Constant x k p := by
  cases e <;> first | (simp [asConst] at h; done) | (cases h; exact ⟨_, _, rfl⟩)
theorem asBin_eq {l r : Expr} {o : Operator} (h : asBin e = some (l, o, r)) : ∃ p, e = .BinOp l o r p := by
  cases e <;> first | (simp [asBin] at h; done) | (cases h; exact ⟨_, rfl⟩)
theorem asUn_eq {l : Expr} {o : UnaryOp} (h : asUn e = some (o, l)) : ∃ p, e = .UnaryOp o l p := by
  cases e <;> first | (simp [asUn] at h; done) | (cases h; exact ⟨_, rfl⟩)
theorem asBool_eq {l : List Expr} {o : BoolOp} {p : Pos} (h : asBool e = some (o, l, p)) : e = .BoolOp o l p := by
  cases e <;> first | (simp [asBool] at h; done) | (cases h; rfl)
theorem asCmp_eq {l r : Expr} {o : CmpOp} (h : asCmp e = some (l, o, r)) : ∃ p, e = .Compare l [o] [r] p := by
  unfold asCmp at h
  split at h
  · cases h; exact ⟨_, rfl⟩
  · cases h
theorem asIf_eq {a b c : Expr} (h : asIf e = some (c, a, b)) : ∃ p, e = .IfExp c a b p := by
  cases e <;> first | (simp [asIf] at h; done) | (cases h; exact ⟨_, rfl⟩)
theorem asTup_eq {l : List Expr} (h : asTup e = some l) : ∃ k p, e = .Tuple l k p := by
  cases e <;> first | (simp [asTup] at h; done) | (cases h; exact ⟨_, _, rfl⟩)
theorem asLst_eq {l : List Expr} (h : asLst e = some l) : ∃ p, e = .List l p := by
  cases e <;> first | (simp [asLst] at h; done) | (cases h; exact ⟨_, rfl⟩)
theorem asCall_eq {x : Str} {l : List Expr} (h : asCall e = some (x, l)) : ∃ q p, e = .Call (.Name x q) l [] p := by
  unfold asCall at h
  split at h
  · cases h; exact ⟨_, _, rfl⟩
  · cases h
theorem asSub_eq {a i : Expr} (h : asSub e = some (a, i)) : ∃ p, e = .Subscript a i p := by
  cases e <;> first | (simp [asSub] at h; done) | (cases h; exact ⟨_, rfl⟩)
theorem asSlice_eq {a b c : Option Expr} (h : asSlice e = some (a, b, c)) : ∃ p, e = .Slice a b c p := by
  cases e <;> first | (simp [asSlice] at h; done) | (cases h; exact ⟨_, rfl⟩)
theorem asLc_eq {elt tg it : Expr} {ifs : List Expr} {sc : Scope} (h : asLc e = some (elt, tg, it, ifs, sc)) : ∃ p, e = .ListComp elt [⟨tg, it, ifs, 0⟩] sc p := by
  unfold asLc at h
  split at h
  · cases h; exact ⟨_, rfl⟩
  · cases h
theorem asStar_eq {x : Expr} (h : asStar e = some x) : ∃ p, e = .Starred x p := by
  cases e <;> first | (simp [asStar] at h; done) | (cases h; exact ⟨_, rfl⟩)
theorem starEach_plain {es : List Expr} {env : Env} (h : asStar e = none) : starEach (e :: es) env = (false, eval e env) :: starEach es env := by
  cases e <;> first | rfl | (simp [asStar] at h)
theorem plainIx_of (h : asSlice e = none) : PlainIx e := by
  intro o i
  cases e <;> first | rfl | (simp [asSlice] at h)
theorem fsi_of {env : Env} (h : isSet e = false) : ∀ x, foldedSetIterable e env x = pure x := by
  intro x
  cases e <;> first | rfl | (simp [isSet] at h)
theorem marks_of {op : CmpOp} (h : isSet e = false) : behindInMarks op e = false := by
  cases e <;> first | rfl | (simp [isSet] at h)
theorem isTrue_of {env : Env} (h : plainT e = true) : ∀ whole, isTrue e env whole = (do let v ← whole; standAt e.pos; holding [v] (truthy v)) := by
  intro whole
  cases e <;> first
    | rfl
    | (simp [plainT] at h; done)
    | (rename_i op x p; cases op <;> first | rfl | (simp [plainT] at h; done))
end
def noStars (es : List Expr) : Bool := es.all fun e => (asStar e).isNone
theorem noStars_any {env : Env} {pos : Pos} : ∀ {es : List Expr}, noStars es = true → (backTo pos (starEach es env)).any (·.1) = false
  | [], _ => rfl
  | e :: es, h => by
    unfold noStars at h
    rw [List.all_cons, Bool.and_eq_true] at h
    have h1 : asStar e = none := by simpa using h.1
    rw [starEach_plain h1]
    have ih := noStars_any (env := env) (pos := pos) (es := es) h.2
    unfold backTo at ih ⊢
    rw [List.map_cons, List.any_cons, ih]
    rfl
end Ev
namespace Ev
open PySem L2
/-! ### the program, the defs' promises -/
structure Pr where
  P : Program
  w : World
  K : PySem.W.Frag
  mg : Str → Option Value
  base : Heap
def spOf (K : PySem.W.Frag) (fr : Bool) (φ : List PV → Cel → R PV) : Sp := fun vs H Q _ => ∃ ω st ts, RepL K ω H vs ts ∧ CelOk K ω st H ∧ match φ ts st with
  | .ok t st' => ∀ v H' ω', ExtE ω H ω' H' → CelOk K ω' st' H' → (if fr then FreshP K H ω' H' v t else Rep K ω' H' v t) → Q v H'
  | _ => False
/-- a promise by positional values, where no repr is under way -/
def FnG (p : Pr) (k : Nat) (f : Addr) (sp : Sp) : Prop :=
  ∀ (A : Around) (outer : List Env) (s : Shared) (H : Hp) (us : List Value) (vs : List V) (Q : VK) (E : XK), Room k A → A.guards = some [] →
    Env0 p.P p.w p.K p.mg p.base A outer s H → Vals vs us → sp vs H Q E → codeAny (model p.P p.w) A (.call (.ref f) ⟨us, []⟩) (CR CX0 outer p.P p.w H s Q E) s
theorem FnG.mono {p : Pr} {j k : Nat} {f : Addr} {sp : Sp} (F : FnG p j f sp) (h : j ≤ k) : FnG p k f sp := fun A outer s H us vs Q E hr => F A outer s H us vs Q E (hr.mono h)
theorem FnG.imp {p : Pr} {k : Nat} {f : Addr} {sp sp' : Sp} (F : FnG p k f sp) (h : ∀ vs H Q E, sp' vs H Q E → sp vs H Q E) : FnG p k f sp' := fun A outer s H us vs Q E hr hg e0 r q => F A outer s H us vs Q E hr hg e0 r (h _ _ _ _ q)
def biNames : List Str := ["len", "int", "tuple", "list", "isinstance", "all", "range", "zip", "bool", "str", "sorted", "set", "dict", "repr", "enumerate", "any", "max", "min", "sum"]
/-- the defs that may be called: their names, whether they hand back a new list, which are told; the names by slot -/
structure Sx where
  nm : Nat → Str
  fr : Nat → Bool
  kn : Nat → Bool
  N : List Str
structure Lib (p : Pr) (k : Nat) (S : Sx) (Φ : Nat → List PV → Cel → R PV) : Prop where
  fn : ∀ i, S.kn i = true → ∃ f, p.mg (S.nm i) = some (.ref f) ∧ PySem.W.keepIn p.K (.ref f) = true ∧ FnG p k f (spOf p.K (S.fr i) (Φ i))
  bi : ∀ x ∈ biNames, p.mg x = none
structure Good (p : Pr) (k : Nat) (N : List Str) (sc : Scope) (fn : Str → Bool) (X : Cx) : Prop where
  hP : X.prog = p.P
  hw : X.w = p.w
  hK : X.K = p.K
  hmg : X.mg = p.mg
  hb : X.base = p.base
  hN : X.N = N
  nd : N.Nodup
  sc : X.env.scope = sc
  fnE : X.fn = fn
  calm : X.calm = true
  room : Room k X.A
  pass : PassesOwn (model X.prog X.w) X.A X.env X.xe
  gd : X.A.guards = some []
/-! ### the check -/
/-- a value (b: a list that a name owns may be read); what is walked (tp: the target is a tuple) -/
inductive Md where
  | v (b : Bool) | i (b tp : Bool)
def Md.b : Md → Bool
  | .v b => b
  | .i b _ => b
def Md.isI : Md → Bool
  | .v _ => false
  | .i _ _ => true
def Md.tp : Md → Bool
  | .v _ => false
  | .i _ tp => tp
def visB (sc : Scope) (x : Str) : Bool := match sc.names.lookup x with
  | some .local => true
  | some .cell => true
  | some .free => true
  | _ => false
def locB (sc : Scope) (fn : Str → Bool) (x : Str) : Bool := match sc.names.lookup x with
  | some .local => true
  | some .cell => fn x
  | _ => false
def glB (sc : Scope) (x : Str) : Bool := decide (sc.names.lookup x = some .globalImplicit) && !(x == ("__debug__" : Str)) && !(x == ("__name__" : Str))
def isNm (N : List Str) (sc : Scope) (i : Nat) (e : Expr) : Bool := match asName e with
  | some x => decide (N[i]? = some x) && visB sc x && !(x == ("__debug__" : Str)) && !(x == ("__classdict__" : Str))
  | none => false
def relabelS (scope sc : Scope) : Scope :=
  { scope with names := scope.names.map fun (n, k) => if (k == .free && sc.kind == .function && sc.names.lookup n == some .cell) then (n, .cell) else (n, k) }
theorem relabelS_eq (scope : Scope) (env : Env) : relabel scope env = relabelS scope env.scope := rfl
def chkTg1 (N : List Str) (sc : Scope) (fn : Str → Bool) (i : Nat) (e : Expr) : Bool := match asName e with
  | some x => decide (N[i]? = some x) && locB sc fn x
  | none => false
def chkTgs (N : List Str) (sc : Scope) (fn : Str → Bool) : List Nat → List Expr → Bool
  | [], [] => true
  | i :: is, e :: es => chkTg1 N sc fn i e && chkTgs N sc fn is es
  | _, _ => false
def chkTg (N : List Str) (sc : Scope) (fn : Str → Bool) (tg : List Nat) (e : Expr) : Bool := match tg with
  | [i] => chkTg1 N sc fn i e
  | is => match asTup e with
    | some es => decide (is.length ≠ 1) && chkTgs N sc fn is es
    | none => false
/-- a call of a built-in with these arguments -/
def call1 (sc : Scope) (x : Str) (e : Expr) : Option Expr := match asCall e with
  | some (y, [a]) => if (decide (y = x) && glB sc x && (asStar a).isNone) then some a else none
  | _ => none
def call2 (sc : Scope) (x : Str) (e : Expr) : Option (Expr × Expr) := match asCall e with
  | some (y, [a, b]) => if (decide (y = x) && glB sc x && (asStar a).isNone && (asStar b).isNone) then some (a, b) else none
  | _ => none
/-- no star at all, or none ahead and some behind -/
def starOk (xs : List Expr) : Bool := noStars xs || (match xs with
  | y :: ys => (asStar y).isNone && !noStars ys
  | [] => false)
def fnBlk (scope : Scope) : Str → Bool := fun x => scope.names.lookup x == some .cell
section
variable (S : Sx)
mutual
def chkE (sc : Scope) (fn : Str → Bool) : Md → C → Expr → Bool
  | _, .var i, e => isNm S.N sc i e
  | m, .bor i, e => m.b && isNm S.N sc i e
  | _, .int i, e => decide (asConst e = some (.int i))
  | _, .str s, e => decide (asConst e = some (.str s))
  | _, .bl b, e => decide (asConst e = some (.bool b))
  | _, .non, e => decide (asConst e = some .none)
  | _, .bin op a b, e => match asBin e with
    | some (l, o, r) => decide (o = opB op) && chkE sc fn (.v true) a l && chkE sc fn (.v true) b r
    | none => false
  | _, .neg a, e => match asUn e with
    | some (o, x) => decide (o = .USub) && chkE sc fn (.v true) a x
    | none => false
  | _, .not a, e => match asUn e with
    | some (o, x) => decide (o = .Not) && chkE sc fn (.v true) a x
    | none => false
  | _, .cmp op a b, e => match asCmp e with
    | some (l, o, r) => decide (o = opC op) && !isSet r && chkE sc fn (.v true) a l && chkE sc fn (.v true) b r
    | none => false
  | m, .and a b, e => match asBool e with
    | some (.And, [x, y], _) => chkE sc fn (.v false) a x && chkE sc fn (.v m.b) b y
    | some (.And, x :: y :: z :: r, p) => chkE sc fn (.v false) a x && chkE sc fn (.v m.b) b (.BoolOp .And (y :: z :: r) p)
    | _ => false
  | m, .or a b, e => match asBool e with
    | some (.Or, [x, y], _) => chkE sc fn (.v false) a x && chkE sc fn (.v m.b) b y
    | some (.Or, x :: y :: z :: r, p) => chkE sc fn (.v false) a x && chkE sc fn (.v m.b) b (.BoolOp .Or (y :: z :: r) p)
    | _ => false
  | m, .ite t a b, e => match asIf e with
    | some (c, x, y) => chkT sc fn t c && chkE sc fn (.v m.b) a x && chkE sc fn (.v m.b) b y
    | none => false
  | _, .tup es, e => match asTup e with
    | some xs => chkA sc fn es xs
    | none => false
  | _, .lst es, e => match asLst e with
    | some xs => chkA sc fn es xs
    | none => false
  | _, .call f es, e => match asCall e with
    | some (x, xs) => !S.fr f && decide (x = S.nm f) && S.kn f && glB sc x && chkA sc fn es xs && starOk xs
    | none => false
  | _, .len a, e => match call1 sc "len" e with
    | some x => chkE sc fn (.v true) a x
    | none => false
  | _, .toInt a, e => match call1 sc "int" e with
    | some x => chkE sc fn (.v true) a x
    | none => false
  | _, .tupleOf a, e => match call1 sc "tuple" e with
    | some x => chkE sc fn (.v true) a x
    | none => false
  | _, .listOf a, e => match call1 sc "list" e with
    | some x => chkE sc fn (.v true) a x
    | none => false
  | _, .isa a t, e => match call2 sc "isinstance" e with
    | some (x, y) => decide (asName y = some (Str.ofString (tyS t))) && glB sc (Str.ofString (tyS t)) && chkE sc fn (.v true) a x
    | none => false
  | _, .all a, e => match call1 sc "all" e with
    | some x => chkE sc fn (.v true) a x
    | none => false
  | _, .indexOf a b, e => match asMeth e with
    | some (o, n, x) => decide (n = ("index" : Str)) && plainO o && (asStar x).isNone && chkE sc fn (.v true) a o && chkE sc fn (.v true) b x
    | none => false
  | _, .ix a i, e => match asSub e with
    | some (x, y) => (asSlice y).isNone && chkE sc fn (.v true) a x && chkE sc fn (.v true) i y
    | none => false
  | _, .sl a lo hi, e => match asSub e with
    | some (x, y) => (match asSlice y with
      | some (l, h, none) => chkE sc fn (.v true) a x && chkO sc fn lo l && chkO sc fn hi h
      | _ => false)
    | none => false
  | _, .comp elt tg it ifs own, e => match asLc e with
    | some (x, t, i, fs, s) => blkC S.N sc s (own.map fun i => (S.N.getD i "", i)) && tg.all (own.contains ·) && !isSet i && chkE sc fn (.i true (asTup t).isSome) it i &&
        chkTg S.N (relabelS s sc) (fnBlk s) tg t && chkF (relabelS s sc) (fnBlk s) ifs fs && chkE (relabelS s sc) (fnBlk s) (.v false) elt x
    | none => false
  | m, .rng1 a, e => m.isI && (match call1 sc "range" e with
    | some x => chkE sc fn (.v false) a x
    | none => false)
  | m, .rng2 a b, e => m.isI && (match call2 sc "range" e with
    | some (x, y) => chkE sc fn (.v false) a x && chkE sc fn (.v false) b y
    | none => false)
  | m, .zip2 a b, e => m.isI && m.tp && (match call2 sc "zip" e with
    | some (x, y) => chkE sc fn (.v false) a x && chkE sc fn (.v false) b y
    | none => false)
  | _, .repr a, e => match call1 sc "repr" e with
    | some x => chkE sc fn (.v true) a x
    | none => false
  | _, .dct kvs, e => match asDct e with
    | some (ks, vs, _) => ks.all (·.isSome) && decide (ks.length = vs.length) && decide (ks ≠ []) && decide (ks.length ≤ 15) && chkD sc fn kvs ks vs
    | none => false
  | _, .dget a i, e => match asSub e with
    | some (x, y) => (asSlice y).isNone && chkE sc fn (.v true) a x && chkE sc fn (.v true) i y
    | none => false
def chkD (sc : Scope) (fn : Str → Bool) : Cs → List (Option Expr) → List Expr → Bool
  | .nil, [], [] => true
  | .cons k (.cons v r), some x :: xs, y :: ys => chkE sc fn (.v false) k x && chkE sc fn (.v false) v y && chkD sc fn r xs ys
  | _, _, _ => false
def chkA (sc : Scope) (fn : Str → Bool) : Cs → List Expr → Bool
  | .nil, [] => true
  | .cons a r, e :: es => (asStar e).isNone && chkE sc fn (.v false) a e && chkA sc fn r es
  | .star a r, e :: es => (match asStar e with
    | some x => chkE sc fn (.v true) a x
    | none => false) && chkA sc fn r es
  | _, _ => false
def chkO (sc : Scope) (fn : Str → Bool) : Cs → Option Expr → Bool
  | .nil, none => true
  | .cons a .nil, some e => chkE sc fn (.v false) a e
  | _, _ => false
def chkF (sc : Scope) (fn : Str → Bool) : Cs → List Expr → Bool
  | .nil, [] => true
  | .cons a .nil, [e] => chkT sc fn a e
  | _, _ => false
/-- as a test -/
def chkT (sc : Scope) (fn : Str → Bool) : C → Expr → Bool
  | .not a, e => match asUn e with
    | some (o, x) => decide (o = .Not) && chkT sc fn a x
    | none => false
  | .and a b, e => match asBool e with
    | some (.And, [x, y], _) => chkT sc fn a x && chkT sc fn b y
    | some (.And, x :: y :: z :: r, p) => chkT sc fn a x && chkT sc fn b (.BoolOp .And (y :: z :: r) p)
    | _ => false
  | .or a b, e => match asBool e with
    | some (.Or, [x, y], _) => chkT sc fn a x && chkT sc fn b y
    | some (.Or, x :: y :: z :: r, p) => chkT sc fn a x && chkT sc fn b (.BoolOp .Or (y :: z :: r) p)
    | _ => false
  | .cmp op a b, e => match asCmp e with
    | some (l, o, r) => decide (o = opC op) && !isSet r && chkE sc fn (.v true) a l && chkE sc fn (.v true) b r
    | none => false
  | .call f es, e => match asCall e with
    | some (x, xs) => !S.fr f && decide (x = S.nm f) && S.kn f && glB sc x && chkA sc fn es xs && starOk xs
    | none => false
  | .isa a t, e => match call2 sc "isinstance" e with
    | some (x, y) => decide (asName y = some (Str.ofString (tyS t))) && glB sc (Str.ofString (tyS t)) && chkE sc fn (.v true) a x
    | none => false
  | .all a, e => match call1 sc "all" e with
    | some x => chkE sc fn (.v true) a x
    | none => false
  | .var i, e => isNm S.N sc i e
  | .ix a i, e => match asSub e with
    | some (x, y) => (asSlice y).isNone && chkE sc fn (.v true) a x && chkE sc fn (.v true) i y
    | none => false
  | .bl b, e => decide (asConst e = some (.bool b))
  | _, _ => false
end
end
end Ev
namespace Ev
open PySem L2
section
variable {X : Cx} {W : Wx} {e a b : Expr} {K : PySem.W.Frag}
/-- a def's call by positional values: the callee runs -/
theorem run_G {p : Pr} {k : Nat} {f : Addr} {sp : Sp} {pins : List (Addr × Obj)} {σ : L2.St} {H : Hp} {s : Shared} {Q : VK} {us : List Value} {vs : List V} (F : FnG p k f sp) (hX : X.prog = p.P ∧ X.w = p.w ∧ X.K = p.K ∧ X.mg = p.mg ∧ X.base = p.base) (hr : Room k X.A) (hg : X.A.guards = some [])
    (I : Inv X pins σ H s) (r : Vals vs us) (h : sp vs H Q E0) : wpAny (model X.prog X.w) X.A (call (.ref f) us) (EP X pins σ Q) X.xe s := by
  obtain ⟨h1, h2, h3, h4, h5⟩ := hX
  have e0 := I.env0
  rw [h1, h2, h3, h4, h5] at e0
  rw [h1, h2]
  refine wpAny_call (codeAny_mono (F X.A X.stack s H us vs Q E0 hr hg e0 r h) fun res s' hq => ?_)
  match res, hq with
  | .error _, hq => exact False.elim hq
  | .ok (.ret u), hq => exact I.after (by rw [h1, h2]; exact hq)
  | .ok .next, hq => exact False.elim hq
  | .ok .brk, hq => exact False.elim hq
  | .ok .cont, hq => exact False.elim hq
theorem pe_callG {p : Pr} {k : Nat} {f : Addr} {sp : Sp} {x : Str} {q pos : Pos} {es : List Expr} {t : TA} (F : FnG p k f sp) (hX : X.prog = p.P ∧ X.w = p.w ∧ X.K = p.K ∧ X.mg = p.mg ∧ X.base = p.base) (hr : Room k X.A) (hg : X.A.guards = some [])
    (hk : PySem.W.keepIn X.K (.ref f) = true) (gx : Gl X x) (hm : X.mg x = some (.ref f)) (ha : PA X (e :: es) t) (hd : (x == ("__debug__" : Str)) = false)
    (he : starEach (e :: es) X.env = (false, eval e X.env) :: starEach es X.env) :
    PE X (.Call (.Name x q) (e :: es) [] pos) (fun σ H Q => t σ H fun vs H1 => sp vs H1 Q E0) := ⟨fun pins s σ H Q I h => by
  have args := ha.run pos pins s σ H _ I h
  cases hst : (backTo pos (starEach es X.env)).any (·.1) with
  | false =>
    exact wpAny_Call_Name_kw (ld_glob I gx hm (PySem.W.callWith_K (h₀ := X.base) I.ok.mod.kin hk (thn args fun us s1 z => by
      obtain ⟨vs, H1, I1, r, qq⟩ := z
      exact ⟨I1.kIn, run_G F hX hr hg I1 r qq⟩) he hst) hd)
  | true =>
    exact wpAny_Call_Name_kw (ld_glob I gx hm (PySem.W.callWith_S2 (h₀ := X.base) I.ok.mod.kin hk (thn args fun us s1 z => by
      obtain ⟨vs, H1, I1, r, qq⟩ := z
      exact ⟨I1.kIn, run_G F hX hr hg I1 r qq⟩) he hst) hd)⟩
theorem pe_callG0 {p : Pr} {k : Nat} {f : Addr} {sp : Sp} {x : Str} {q pos : Pos} (F : FnG p k f sp) (hX : X.prog = p.P ∧ X.w = p.w ∧ X.K = p.K ∧ X.mg = p.mg ∧ X.base = p.base) (hr : Room k X.A) (hg : X.A.guards = some [])
    (hk : PySem.W.keepIn X.K (.ref f) = true) (gx : Gl X x) (hm : X.mg x = some (.ref f)) (hd : (x == ("__debug__" : Str)) = false) : PE X (.Call (.Name x q) [] [] pos) (fun σ H Q => sp [] H Q E0) :=
  ⟨fun pins s σ H Q I h => wpAny_Call_Name_kw (ld_glob I gx hm (PySem.W.callWith_K0 I.kIn hk (run_G (us := []) F hX hr hg I .nil h)) hd)⟩
/-- what a call gives -/
theorem se_call {f : En → Cel → R (List PV)} {φ : List PV → Cel → R PV} {t : TA → TE} {bz : Bool} {es : List Expr} {E : XK} (hpe : ∀ ta, PA X es ta → PE X e (fun σ H Q => ta σ H fun vs H1 => spOf X.K false φ vs H1 Q E)) (ha : PA X es (tvs X.K W f)) :
    PE X e (tv X.K bz W fun ρ st => (f ρ st).bind fun xs st => (φ xs st).noexc) := by
  refine wPE (hpe _ ha) fun σ H Q ⟨g, ω, ρ, st, rel, h⟩ => (bindG (P := RepL X.K) rel h).mono fun xs H1 ⟨ω1, st1, ts, x1, rel1, p, q⟩ => ?_
  refine ⟨ω1, st1, ts, p, rel1.cells, ?_⟩
  cases e1 : φ ts st1 with
  | ok t s => rw [e1] at q; exact fun v H' ω' y c r => q v H' ω' y c (.inl r)
  | exc x s => rw [e1] at q; exact q.elim
  | bad => rw [e1] at q; exact q.elim
theorem sF_call {f : En → Cel → R (List PV)} {φ : List PV → Cel → R PV} {t : TA → TE} {es : List Expr} {E : XK} (hpe : ∀ ta, PA X es ta → PE X e (fun σ H Q => ta σ H fun vs H1 => spOf X.K true φ vs H1 Q E)) (ha : PA X es (tvs X.K W f)) :
    PE X e (tvF X.K W fun ρ st => (f ρ st).bind fun xs st => (φ xs st).noexc) := by
  refine wPE (hpe _ ha) fun σ H Q ⟨g, ω, ρ, st, rel, h⟩ => (bindF (P := RepL X.K) rel h).mono fun xs H1 ⟨ω1, st1, ts, x1, rel1, p, q⟩ => ?_
  refine ⟨ω1, st1, ts, p, rel1.cells, ?_⟩
  cases e1 : φ ts st1 with
  | ok t s => rw [e1] at q; exact fun v H' ω' y c r => q v H' ω' y c r
  | exc x s => rw [e1] at q; exact q.elim
  | bad => rw [e1] at q; exact q.elim
/-- nothing is answered -/
theorem se_bad {f : En → Cel → R PV} {bz : Bool} (h : ∀ ρ st, (∃ e s, f ρ st = .exc e s) ∨ f ρ st = .bad) (hw : ∀ e s, ∀ ρ st, f ρ st ≠ .exc e s) : PE X e (tv X.K bz W f) := ⟨fun pins s σ H Q I ⟨g, ω, ρ, st, rel, q⟩ => by
  rcases h ρ st with ⟨x, s', z⟩ | z
  · exact absurd z (hw x s' ρ st)
  · rw [z] at q; exact q.elim⟩
/-- two operands, as a test -/
theorem w2 {f f' : En → Cel → R PV} {r : R2} {v : Cel → PV → PV → Option PV} {ba bb bz : Bool} (hv : VR2 K ba bb r v) : ∀ σ H Q, tv K bz W (fun ρ st => (f ρ st).bind fun x st => (f' ρ st).bind fun y st => R.of (v st x y) st) σ H Q → tOp r (tv K ba W f) (tv K bb W f') σ H Q :=
  fun σ H Q ⟨g, ω, ρ, st, rel, h⟩ => (bindG (P := RepM K ba) rel h).mono fun x H1 ⟨ω1, st1, t, x1, rel1, p, q⟩ => by
    refine (bindG (P := RepM K bb) (f := f') rel1 q).mono fun y H2 ⟨ω2, st2, u, x2, rel2, p2, q2⟩ => ?_
    obtain ⟨z, ez, qz⟩ := of_post rel2 q2
    exact hv st2 x y t u z ω2 H2 Q rel2.cells (p.extE x2 rel1.cells) p2 ez qz
end
section
variable {p : Pr} {k : Nat} {S : Sx} {Φ : Nat → List PV → Cel → R PV} {sc : Scope} {fn : Str → Bool} {X : Cx} {W : Wx} {e : Expr}
theorem isNm_of {i : Nat} (h : isNm S.N sc i e = true) : ∃ x q, e = .Name x q ∧ S.N[i]? = some x ∧ Vis sc x ∧ (x == ("__debug__" : Str)) = false ∧ (x == ("__classdict__" : Str)) = false := by
  unfold isNm at h
  cases q : asName e with
  | none => rw [q] at h; cases h
  | some x =>
    rw [q] at h
    obtain ⟨pp, rfl⟩ := asName_eq q
    simp only [Bool.and_eq_true, decide_eq_true_eq, Bool.not_eq_true'] at h
    refine ⟨x, pp, rfl, h.1.1.1, ?_, h.1.2, h.2⟩
    have hv := h.1.1.2
    unfold visB at hv
    unfold Vis
    split at hv
    · rename_i z; exact .inl z
    · rename_i z; exact .inr (.inl z)
    · rename_i z; exact .inr (.inr z)
    · cases hv
theorem Good.var (G : Good p k S.N sc fn X) {i : Nat} (h : isNm S.N sc i e = true) : PE X e (tVar i) := by
  obtain ⟨x, q, rfl, h1, h2, h3, h4⟩ := isNm_of h
  exact pe_var (by rw [G.hN]; exact h1) (by rw [G.sc]; exact h2) h3 h4
theorem Good.gl (G : Good p k S.N sc fn X) {x : Str} (h : glB sc x = true) : Gl X x ∧ (x == ("__debug__" : Str)) = false ∧ x ≠ "__name__" := by
  unfold glB at h
  simp only [Bool.and_eq_true, decide_eq_true_eq, Bool.not_eq_true'] at h
  refine ⟨?_, h.1.2, fun z => ?_⟩
  · show X.env.scope.names.lookup x = _
    rw [G.sc]; exact h.1.1
  · rw [z] at h
    exact absurd h.2 (by decide)
theorem call1_of {x : Str} {a : Expr} (h : call1 sc x e = some a) : ∃ q pp, e = .Call (.Name x q) [a] [] pp ∧ glB sc x = true ∧ asStar a = none := by
  unfold call1 at h
  split at h
  · rename_i y a' hc
    split at h
    · rename_i hz
      cases h
      obtain ⟨q, pp, rfl⟩ := asCall_eq hc
      simp only [Bool.and_eq_true, decide_eq_true_eq, Option.isNone_iff_eq_none] at hz
      obtain ⟨⟨rfl, h2⟩, h3⟩ := hz
      exact ⟨q, pp, rfl, h2, h3⟩
    · cases h
  · cases h
theorem call2_of {x : Str} {a b : Expr} (h : call2 sc x e = some (a, b)) : ∃ q pp, e = .Call (.Name x q) [a, b] [] pp ∧ glB sc x = true ∧ asStar a = none ∧ asStar b = none := by
  unfold call2 at h
  split at h
  · rename_i y a' b' hc
    split at h
    · rename_i hz
      cases h
      obtain ⟨q, pp, rfl⟩ := asCall_eq hc
      simp only [Bool.and_eq_true, decide_eq_true_eq, Option.isNone_iff_eq_none] at hz
      obtain ⟨⟨⟨rfl, h2⟩, h3⟩, h4⟩ := hz
      exact ⟨q, pp, rfl, h2, h3, h4⟩
    · cases h
  · cases h
def Snd (X : Cx) (W : Wx) (Φ : Nat → List PV → Cel → R PV) : Md → C → Expr → Prop
  | .v b, c, e => PE X e (tv X.K b W (ev Φ c))
  | .i b tp, c, e => ∀ tg, (tp = true → ∃ es k p, tg = Expr.Tuple es k p) → PI X tg e (ti X.K b W (ev Φ c))
theorem sndOf {m : Md} {c : C} (h : PE X e (tv X.K m.b W (ev Φ c))) : Snd X W Φ m c e := by
  cases m with
  | v b => exact h
  | i b tp => exact fun tg _ => si_seq h
/-- one argument of a built-in -/
theorem Good.bi1 (L : Lib p k S Φ) (G : Good p k S.N sc fn X) {x : Str} {a : Expr} {id : String} {r : List V → Hp → VK → Prop} (h : call1 sc x e = some a) (hm : x ∈ biNames) (hv : bootBuiltins x = some (.builtin id)) (hc : CallR X (.builtin id) r) : ∀ ta, PE X a ta → PE X e (tUn (rC1 r) ta) := by
  intro ta ha
  obtain ⟨q, pp, rfl, h2, h3⟩ := call1_of h
  obtain ⟨g1, g2, g3⟩ := G.gl h2
  exact pe_callB hc g1 (by rw [G.hmg]; exact L.bi x hm) hv (pa_cons ha pa_nil (starEach_plain h3)) g3 g2 (starEach_plain h3) rfl
theorem Good.ty1 (L : Lib p k S Φ) (G : Good p k S.N sc fn X) {x : Str} {a : Expr} {T : String} {r : List V → Hp → VK → Prop} (h : call1 sc x e = some a) (hm : x ∈ biNames) (hv : bootBuiltins x = some (.type T)) (hc : CallR X (.type T) r) : ∀ ta, PE X a ta → PE X e (tUn (rC1 r) ta) := by
  intro ta ha
  obtain ⟨q, pp, rfl, h2, h3⟩ := call1_of h
  obtain ⟨g1, g2, g3⟩ := G.gl h2
  exact pe_callTy hc g1 (by rw [G.hmg]; exact L.bi x hm) hv (pa_cons ha pa_nil (starEach_plain h3)) g3 g2 (starEach_plain h3) rfl
/-- isinstance -/
theorem Good.isi (L : Lib p k S Φ) (G : Good p k S.N sc fn X) {a y : Expr} {t : Ty} {f : En → Cel → R PV} {bz : Bool} (h : call2 sc "isinstance" e = some (a, y)) (hy : asName y = some (Str.ofString (tyS t))) (hg : glB sc (Str.ofString (tyS t)) = true) (ha : PE X a (tv X.K true W f)) :
    PE X e (tv X.K bz W fun ρ st => (f ρ st).bind fun x st => R.of ((isaV x t).map .bl) st) := by
  obtain ⟨q, pp, rfl, h2, h3, h4⟩ := call2_of h
  obtain ⟨g1, g2, g3⟩ := G.gl h2
  obtain ⟨yp, rfl⟩ := asName_eq hy
  obtain ⟨t1, t2, t3⟩ := G.gl hg
  have hmt : p.mg (Str.ofString (tyS t)) = none := L.bi _ (by cases t <;> decide +kernel)
  have hvt : bootBuiltins (Str.ofString (tyS t)) = some (.type (tyS t)) := by cases t <;> decide +kernel
  have hT : PE X (.Name (Str.ofString (tyS t)) yp) (tC (.ty (tyS t))) := pe_bltn t1 (by rw [G.hmg]; exact hmt) hvt rfl t3 t2
  have base : PE X (.Call (.Name "isinstance" q) [a, .Name (Str.ofString (tyS t)) yp] [] pp) (tUn (fun x H Q => rIsi X.K [x, .ty (tyS t)] H Q) (tv X.K true W f)) :=
    pe_callB call_isi g1 (by rw [G.hmg]; exact L.bi _ (by decide +kernel)) PyProof.Rows.boot_isinstance (pa_cons ha (pa_cons hT pa_nil (starEach_plain h4)) (starEach_plain h3)) g3 g2 (starEach_plain h3) (noStars_any (es := [.Name (Str.ofString (tyS t)) yp]) rfl)
  refine wPE base fun σ H Q ⟨g, ω, ρ, st, rel, hh⟩ => (bindG (P := RepM X.K true) rel hh).mono fun x H1 ⟨ω1, st1, u, x1, rel1, pq, qq⟩ => ?_
  obtain ⟨z, ez, qz⟩ := of_post rel1 qq
  cases ei : isaV u t with
  | none => rw [ei] at ez; cases ez
  | some kk =>
    rw [ei] at ez
    cases ez
    obtain ⟨n, hn, hk⟩ := tyx pq ei
    exact ⟨x, _, _, _, kk, rfl, .ty _, hn, kit_ty hk, qz _ _ ω1 (Grow.refl _ _) (.bl kk)⟩
theorem locB_of {x : Str} (h : locB sc fn x = true) : Loc sc x ∧ (fn x = true ∨ sc.names.lookup x = some .local) := by
  unfold locB at h
  unfold L2.Loc
  split at h
  · rename_i z; exact ⟨.inl z, .inr z⟩
  · rename_i z; exact ⟨.inr z, .inl h⟩
  · cases h
theorem Good.tg1 (G : Good p k S.N sc fn X) {i : Nat} (h : chkTg1 S.N sc fn i e = true) : PG X e (gName i) := by
  unfold chkTg1 at h
  cases q : asName e with
  | none => rw [q] at h; cases h
  | some x =>
    rw [q] at h
    obtain ⟨pp, rfl⟩ := asName_eq q
    simp only [Bool.and_eq_true, decide_eq_true_eq] at h
    obtain ⟨l1, l2⟩ := locB_of h.2
    exact pg_name (by rw [G.hN]; exact G.nd) (by rw [G.hN]; exact h.1) (by rw [G.sc]; exact l1) (by rw [G.fnE, G.sc]; exact l2)
theorem asName_star {x : Str} (h : asName e = some x) : asStar e = none := by
  obtain ⟨_, rfl⟩ := asName_eq h
  rfl
theorem assignEach_plain {es : List Expr} {env : Env} (h : asStar e = none) : assignEach (e :: es) env = (false, assign e env) :: assignEach es env := by
  cases e <;> first | rfl | (simp [asStar] at h)
theorem tg1_star {i : Nat} (h : chkTg1 S.N sc fn i e = true) : asStar e = none := by
  unfold chkTg1 at h
  cases q : asName e with
  | none => rw [q] at h; cases h
  | some x => exact asName_star q
theorem Good.tgs (G : Good p k S.N sc fn X) : ∀ {is : List Nat} {es : List Expr}, chkTgs S.N sc fn is es = true → PGs X es (gNames is) ∧ (assignEach es X.env).length = is.length ∧ (assignEach es X.env).findIdx? (·.1) = none
  | [], [], _ => ⟨pgs_nil, rfl, rfl⟩
  | i :: is, e :: es, h => by
    unfold chkTgs at h
    rw [Bool.and_eq_true] at h
    obtain ⟨h1, h2, h3⟩ := Good.tgs G h.2
    have hs := assignEach_plain (es := es) (env := X.env) (tg1_star h.1)
    refine ⟨pgs_cons (G.tg1 h.1) h1 (by rw [hs]; rfl), by rw [hs]; simp [h2], ?_⟩
    rw [hs, List.findIdx?_cons, h3]
    rfl
  | [], _ :: _, h => by cases h
  | _ :: _, [], h => by cases h
theorem Good.tg (G : Good p k S.N sc fn X) {tg : List Nat} (h : chkTg S.N sc fn tg e = true) : PG X e (gAsg X.K tg) := by
  have many : ∀ is : List Nat, (match asTup e with
    | some es => decide (is.length ≠ 1) && chkTgs S.N sc fn is es
    | none => false) = true → PG X e (fun v σ H Q => gTup X.K is.length (gNames is) v σ H Q ∨ gUnl X.K is.length (gNames is) v σ H Q) := fun is hm => by
    clear h
    cases q : asTup e with
    | none => rw [q] at hm; cases hm
    | some es =>
      rw [q] at hm
      obtain ⟨kk, pp, rfl⟩ := asTup_eq q
      have h' : (decide (is.length ≠ 1) && chkTgs S.N sc fn is es) = true := hm
      rw [Bool.and_eq_true] at h'
      obtain ⟨h1, h2, h3⟩ := G.tgs h'.2
      exact pg_or (pg_tup G.calm h1 h2 h3) (pg_unl G.calm h1 h2 h3)
  match tg, h with
  | [i], h => exact G.tg1 h
  | [], h => exact many [] h
  | i :: j :: is, h => exact many (i :: j :: is) h
theorem Good.blk (G : Good p k S.N sc fn X) (s : Shared) (H : Hp) (scope : Scope) (C : Addr) (cl : List (Str × Addr)) (fp : List Addr) : Good p k S.N (relabelS scope sc) (fnBlk scope) (X.blk s H scope (compEnvC scope cl C X.env) fp) :=
  ⟨G.hP, G.hw, G.hK, G.hmg, G.hb, G.hN, G.nd, (by show relabel scope X.env = _; rw [relabelS_eq, G.sc]), rfl, G.calm, G.room, PassesOwn.never, G.gd⟩
end
end Ev
namespace Ev
open PySem L2
section
variable {p : Pr} {k : Nat} {S : Sx} {Φ : Nat → List PV → Cel → R PV}
theorem asB_ev {X : Cx} {W : Wx} {e : Expr} {c : C} (hp : plainT e = true) (h : PE X e (tv X.K false W (ev Φ c))) : PT X e (tvbb X.K W (asB (ev Φ c))) := st_val (fun _ q => pt_val q (isTrue_of hp)) h
theorem pw_bool {X : Cx} {op : BoolOp} {es : List Expr} {pos : Pos} {t : TT} (h : PT X (.BoolOp op es pos) t) : PW X (.BoolOp op es pos) t := ⟨fun whole pins s σ H Q I q => h.run pins s σ H Q I q⟩
theorem sub_own {own : List Nat} {N : List Str} : (own.map fun i => (N.getD i "", i)).map (·.2) = own := by
  rw [List.map_map]
  exact List.map_id _
theorem Good.call (L : Lib p k S Φ) {sc : Scope} {fn : Str → Bool} {X : Cx} {W : Wx} {e : Expr} (G : Good p k S.N sc fn X) {f : Nat} {x : Str} {xs : List Expr} {es : Cs} (hc : asCall e = some (x, xs)) (hx : x = S.nm f) (hk : S.kn f = true) (hg : glB sc x = true)
    (hs : starOk xs = true) (hn : xs = [] → es = .nil) (ha : PA X xs (tvs X.K W (evs Φ es))) :
    (S.fr f = false → ∀ bz, PE X e (tv X.K bz W (ev Φ (.call f es)))) ∧ (S.fr f = true → PE X e (tvF X.K W (ev Φ (.call f es)))) := by
  obtain ⟨q, pp, rfl⟩ := asCall_eq hc
  obtain ⟨g1, g2, g3⟩ := G.gl hg
  obtain ⟨fa, m1, m2, F⟩ := L.fn f hk
  have F' : FnG p k fa (spOf X.K (S.fr f) (Φ f)) := by rw [G.hK]; exact F
  have hX : X.prog = p.P ∧ X.w = p.w ∧ X.K = p.K ∧ X.mg = p.mg ∧ X.base = p.base := ⟨G.hP, G.hw, G.hK, G.hmg, G.hb⟩
  have m1' : X.mg x = some (.ref fa) := by rw [G.hmg, hx]; exact m1
  have m2' : PySem.W.keepIn X.K (.ref fa) = true := by rw [G.hK]; exact m2
  cases xs with
  | nil =>
    cases hn rfl
    have pe := pe_callG0 (pos := pp) (q := q) F' hX G.room G.gd m2' g1 m1' g2
    refine ⟨fun hf bz => ?_, fun hf => ?_⟩
    · rw [hf] at pe
      refine wPE pe fun σ H Q ⟨g, ω, ρ, st, rel, h⟩ => ?_
      change postG _ _ _ _ _ _ _ _ ((Φ f [] st).noexc) Q at h
      refine ⟨ω, st, [], .nil, rel.cells, ?_⟩
      cases e1 : Φ f [] st with
      | ok t s => rw [e1] at h; exact fun v H' ω' y c r => h v H' ω' y c (.inl r)
      | exc x s => rw [e1] at h; exact h.elim
      | bad => rw [e1] at h; exact h.elim
    · rw [hf] at pe
      refine wPE pe fun σ H Q ⟨g, ω, ρ, st, rel, h⟩ => ?_
      change postF _ _ _ _ _ _ _ ((Φ f [] st).noexc) Q at h
      refine ⟨ω, st, [], .nil, rel.cells, ?_⟩
      cases e1 : Φ f [] st with
      | ok t s => rw [e1] at h; exact fun v H' ω' y c r => h v H' ω' y c r
      | exc x s => rw [e1] at h; exact h.elim
      | bad => rw [e1] at h; exact h.elim
  | cons y ys =>
    have pe : ∀ ta, PA X (y :: ys) ta → PE X (.Call (.Name x q) (y :: ys) [] pp) (fun σ H Q => ta σ H fun vs H1 => spOf X.K (S.fr f) (Φ f) vs H1 Q E0) := fun ta hta => by
      have h1 : asStar y = none := by
        unfold starOk at hs
        rw [Bool.or_eq_true] at hs
        rcases hs with hs | hs
        · unfold noStars at hs
          rw [List.all_cons, Bool.and_eq_true, Option.isNone_iff_eq_none] at hs
          exact hs.1
        · rw [Bool.and_eq_true, Option.isNone_iff_eq_none] at hs
          exact hs.1
      exact pe_callG F' hX G.room G.gd m2' g1 m1' hta g2 (starEach_plain h1)
    refine ⟨fun hf bz => ?_, fun hf => ?_⟩
    · rw [hf] at pe
      exact se_call (t := fun _ => tC .non) pe ha
    · rw [hf] at pe
      exact sF_call (t := fun _ => tC .non) pe ha
theorem F_lst {sc : Scope} {fn : Str → Bool} {X : Cx} {m : Md} {e : Expr} {W : Wx} {es : Cs} (h : chkE S sc fn m (.lst es) e = true) (ha : ∀ xs, chkA S sc fn es xs = true → PA X xs (tvs X.K W (evs Φ es))) : PE X e (tvF X.K W (ev Φ (.lst es))) := by
  rw [chkE] at h
  cases q : asLst e with
  | none => rw [q] at h; cases h
  | some xs =>
    rw [q] at h
    obtain ⟨pp, rfl⟩ := asLst_eq q
    exact sF_lst (fun ta ha => pe_lst ha) (ha xs h)
theorem F_listOf (L : Lib p k S Φ) {sc : Scope} {fn : Str → Bool} {X : Cx} {m : Md} {e : Expr} {W : Wx} {a : C} (G : Good p k S.N sc fn X) (h : chkE S sc fn m (.listOf a) e = true) (ha : ∀ x, chkE S sc fn (.v true) a x = true → PE X x (tv X.K true W (ev Φ a))) : PE X e (tvF X.K W (ev Φ (.listOf a))) := by
  rw [chkE] at h
  cases q : call1 sc "list" e with
  | none => rw [q] at h; cases h
  | some x =>
    rw [q] at h
    exact sF1 (v := fun _ => listV) (G.ty1 L q (by decide +kernel) PyProof.Rows.boot_list call_list_of) (ha x h) vf_list
theorem F_comp {sc : Scope} {fn : Str → Bool} {X : Cx} {m : Md} {e : Expr} {W : Wx} {elt it : C} {tg own : List Nat} {ifs : Cs} (G : Good p k S.N sc fn X) (h : chkE S sc fn m (.comp elt tg it ifs own) e = true)
    (h1 : ∀ tp x, chkE S sc fn (.i true tp) it x = true → Snd X W Φ (.i true tp) it x)
    (h2 : ∀ {sc : Scope} {fn : Str → Bool} {X : Cx} {fs : List Expr}, Good p k S.N sc fn X → chkF S sc fn ifs fs = true → PTs X fs (tvbb X.K W0 (evt Φ ifs)))
    (h3 : ∀ {sc : Scope} {fn : Str → Bool} {X : Cx} {x : Expr}, Good p k S.N sc fn X → chkE S sc fn (.v false) elt x = true → PE X x (tv X.K false W0 (ev Φ elt))) : PE X e (tvF X.K W (ev Φ (.comp elt tg it ifs own))) := by
  rw [chkE] at h
  cases q : asLc e with
  | none => rw [q] at h; cases h
  | some u =>
    obtain ⟨x, t, i, fs, s⟩ := u
    rw [q] at h
    obtain ⟨pp, rfl⟩ := asLc_eq q
    simp only [Bool.and_eq_true, Bool.not_eq_true'] at h
    obtain ⟨⟨⟨⟨⟨⟨q1, q2⟩, q3⟩, q4⟩, q5⟩, q6⟩, q7⟩ := h
    refine sF_comp ?_ (fun j hj => ?_)
    · have base := pe_lc (X := X) (elt := x) (tg := t) (iter := i) (ifs := fs) (scope := s) (pos := pp) (own := own.map fun i => (S.N.getD i "", i)) (wi := ti X.K true W (ev Φ it)) (g := gAsg X.K tg) (tt := tvbb X.K W0 (evt Φ ifs)) (te := tv X.K false W0 (ev Φ elt)) G.calm (by rw [G.hN]; exact G.nd)
        (h1 _ i q4 t (fun z => by
          cases q2 : asTup t with
          | none => rw [q2] at z; cases z
          | some es => obtain ⟨kk, p2, rfl⟩ := asTup_eq q2; exact ⟨es, kk, p2, rfl⟩))
        (by rw [G.hN, G.sc]; exact blkOk_by q1)
        (fun s' H' C cl fp => (G.blk s' H' s C cl fp).tg q5)
        (fun s' H' C cl fp => h2 (G.blk s' H' s C cl fp) q6)
        (fun s' H' C cl fp => h3 (G.blk s' H' s C cl fp) q7)
        (fsi_of q3)
      rw [sub_own] at base
      exact base
    · have := List.all_eq_true.mp q2 j hj
      simpa using this
mutual
theorem soundE (L : Lib p k S Φ) : ∀ (c : C) {sc : Scope} {fn : Str → Bool} {X : Cx} {m : Md} {e : Expr} {W : Wx}, Good p k S.N sc fn X → chkE S sc fn m c e = true → Snd X W Φ m c e
  | .var i, sc, fn, X, m, e, W, G, h => by
    rw [chkE] at h
    exact sndOf (se_var (G.var h))
  | .bor i, sc, fn, X, m, e, W, G, h => by
    rw [chkE, Bool.and_eq_true] at h
    refine sndOf ?_
    rw [h.1]
    exact se_bor (G.var h.2)
  | .int i, sc, fn, X, m, e, W, G, h => by
    rw [chkE, decide_eq_true_eq] at h
    obtain ⟨kk, pp, rfl⟩ := asConst_eq h
    exact sndOf (se_c (fun _ _ => .int i) pe_int)
  | .str s, sc, fn, X, m, e, W, G, h => by
    rw [chkE, decide_eq_true_eq] at h
    obtain ⟨kk, pp, rfl⟩ := asConst_eq h
    exact sndOf (se_c (fun _ _ => .str s) pe_str)
  | .bl b, sc, fn, X, m, e, W, G, h => by
    rw [chkE, decide_eq_true_eq] at h
    obtain ⟨kk, pp, rfl⟩ := asConst_eq h
    exact sndOf (se_c (fun _ _ => .bl b) pe_bl)
  | .non, sc, fn, X, m, e, W, G, h => by
    rw [chkE, decide_eq_true_eq] at h
    obtain ⟨kk, pp, rfl⟩ := asConst_eq h
    exact sndOf (se_c (fun _ _ => .non) pe_non)
  | .bin op a b, sc, fn, X, m, e, W, G, h => by
    rw [chkE] at h
    cases q : asBin e with
    | none => rw [q] at h; cases h
    | some t =>
      obtain ⟨l, o, r⟩ := t
      rw [q] at h
      obtain ⟨pp, rfl⟩ := asBin_eq q
      simp only [Bool.and_eq_true, decide_eq_true_eq] at h
      obtain ⟨⟨rfl, h1⟩, h2⟩ := h
      exact sndOf (se2 (v := fun _ => binV op) (fun ta tb ha hb => pe_op (opr_bin op) ha hb) (soundE L a G h1) (soundE L b G h2) (vr_bin op))
  | .neg a, sc, fn, X, m, e, W, G, h => by
    rw [chkE] at h
    cases q : asUn e with
    | none => rw [q] at h; cases h
    | some t =>
      obtain ⟨o, x⟩ := t
      rw [q] at h
      obtain ⟨pp, rfl⟩ := asUn_eq q
      simp only [Bool.and_eq_true, decide_eq_true_eq] at h
      obtain ⟨rfl, h1⟩ := h
      exact sndOf (se1 (v := fun _ => negV) (fun ta ha => pe_un un_neg ha) (soundE L a G h1) vr_neg)
  | .not a, sc, fn, X, m, e, W, G, h => by
    rw [chkE] at h
    cases q : asUn e with
    | none => rw [q] at h; cases h
    | some t =>
      obtain ⟨o, x⟩ := t
      rw [q] at h
      obtain ⟨pp, rfl⟩ := asUn_eq q
      simp only [Bool.and_eq_true, decide_eq_true_eq] at h
      obtain ⟨rfl, h1⟩ := h
      refine sndOf (se1 (v := fun _ => notV) (r := fun x H Q => ∃ c, x = .bl c ∧ Q (.bl (!c)) H) (fun ta ha => pe_not ha) (soundE L a G h1) ?_)
      intro st x t z ω H Q c hx hv qq
      cases t with
      | bl c => cases hv; exact ⟨c, hx.bl, qq _ _ ω (Grow.refl _ _) (.bl _)⟩
      | _ => cases hv
  | .cmp op a b, sc, fn, X, m, e, W, G, h => by
    rw [chkE] at h
    cases q : asCmp e with
    | none => rw [q] at h; cases h
    | some t =>
      obtain ⟨l, o, r⟩ := t
      rw [q] at h
      obtain ⟨pp, rfl⟩ := asCmp_eq q
      simp only [Bool.and_eq_true, decide_eq_true_eq, Bool.not_eq_true'] at h
      obtain ⟨⟨⟨rfl, h0⟩, h1⟩, h2⟩ := h
      exact sndOf (se2 (v := fun _ x y => (cmpV op x y).map .bl) (fun ta tb ha hb => pe_cmpR (opr_cmp G.room.units op) ha hb (marks_of h0)) (soundE L a G h1) (soundE L b G h2) (vr_cmp op))
  | .and a b, sc, fn, X, m, e, W, G, h => by
    rw [chkE] at h
    split at h
    · rename_i x y pp q
      obtain rfl := asBool_eq q
      rw [Bool.and_eq_true] at h
      exact sndOf (se_and (fun ta tb ha hb => pe_and ha (pe_one hb)) (soundE L a G h.1) (soundE L b G h.2))
    · rename_i x y z r pp q
      obtain rfl := asBool_eq q
      rw [Bool.and_eq_true] at h
      exact sndOf (se_and (fun ta tb ha hb => pe_and ha hb) (soundE L a G h.1) (soundE L b G h.2))
    · cases h
  | .or a b, sc, fn, X, m, e, W, G, h => by
    rw [chkE] at h
    split at h
    · rename_i x y pp q
      obtain rfl := asBool_eq q
      rw [Bool.and_eq_true] at h
      exact sndOf (se_or (fun ta tb ha hb => pe_or ha (pe_one hb)) (soundE L a G h.1) (soundE L b G h.2))
    · rename_i x y z r pp q
      obtain rfl := asBool_eq q
      rw [Bool.and_eq_true] at h
      exact sndOf (se_or (fun ta tb ha hb => pe_or ha hb) (soundE L a G h.1) (soundE L b G h.2))
    · cases h
  | .ite t a b, sc, fn, X, m, e, W, G, h => by
    rw [chkE] at h
    cases q : asIf e with
    | none => rw [q] at h; cases h
    | some u =>
      obtain ⟨c, x, y⟩ := u
      rw [q] at h
      obtain ⟨pp, rfl⟩ := asIf_eq q
      simp only [Bool.and_eq_true] at h
      exact sndOf (se_ite (fun tt ta tb hc ha hb => pe_ifExp hc ha hb) (soundT L t G h.1.1) (soundE L a G h.1.2) (soundE L b G h.2))
  | .tup es, sc, fn, X, m, e, W, G, h => by
    rw [chkE] at h
    cases q : asTup e with
    | none => rw [q] at h; cases h
    | some xs =>
      rw [q] at h
      obtain ⟨kk, pp, rfl⟩ := asTup_eq q
      exact sndOf (se_tup (fun ta ha => pe_tup ha) (soundA L es G h))
  | .lst es, sc, fn, X, m, e, W, G, h => sndOf (sF_v (F_lst h fun xs hx => soundA L es G hx))
  | .call f es, sc, fn, X, m, e, W, G, h => by
    rw [chkE] at h
    cases q : asCall e with
    | none => rw [q] at h; cases h
    | some u =>
      obtain ⟨x, xs⟩ := u
      rw [q] at h
      simp only [Bool.and_eq_true, decide_eq_true_eq, Bool.not_eq_true'] at h
      obtain ⟨⟨⟨⟨⟨h0, h1⟩, h2⟩, h3⟩, h4⟩, h5⟩ := h
      exact sndOf ((G.call L q h1 h2 h3 h5 (fun z => by subst z; cases es <;> first | rfl | exact Bool.noConfusion (show false = true from h4)) (soundA L es G h4)).1 h0 _)
  | .len a, sc, fn, X, m, e, W, G, h => by
    rw [chkE] at h
    cases q : call1 sc "len" e with
    | none => rw [q] at h; cases h
    | some x =>
      rw [q] at h
      exact sndOf (se1 (v := fun _ => lenV) (G.bi1 L q (by decide +kernel) boot_len cr_lenV) (soundE L a G h) vr_len)
  | .toInt a, sc, fn, X, m, e, W, G, h => by
    rw [chkE] at h
    cases q : call1 sc "int" e with
    | none => rw [q] at h; cases h
    | some x =>
      rw [q] at h
      exact sndOf (se1 (v := fun _ => toIntV) (G.ty1 L q (by decide +kernel) PyProof.Rows.boot_int call_int1) (soundE L a G h) vr_toInt)
  | .tupleOf a, sc, fn, X, m, e, W, G, h => by
    rw [chkE] at h
    cases q : call1 sc "tuple" e with
    | none => rw [q] at h; cases h
    | some x =>
      rw [q] at h
      exact sndOf (se1 (v := fun _ => tupleV) (G.ty1 L q (by decide +kernel) PyProof.Rows.boot_tuple call_tuple_of) (soundE L a G h) vr_tupleOf)
  | .listOf a, sc, fn, X, m, e, W, G, h => sndOf (sF_v (F_listOf L G h fun x hx => soundE (m := .v true) L a G hx))
  | .isa a t, sc, fn, X, m, e, W, G, h => by
    rw [chkE] at h
    cases q : call2 sc "isinstance" e with
    | none => rw [q] at h; cases h
    | some u =>
      obtain ⟨x, y⟩ := u
      rw [q] at h
      simp only [Bool.and_eq_true, decide_eq_true_eq] at h
      exact sndOf (G.isi L q h.1.1 h.1.2 (soundE L a G h.2))
  | .all a, sc, fn, X, m, e, W, G, h => by
    rw [chkE] at h
    cases q : call1 sc "all" e with
    | none => rw [q] at h; cases h
    | some x =>
      rw [q] at h
      exact sndOf (se1 (v := fun _ => allV) (G.bi1 L q (by decide +kernel) PyProof.Rows.boot_all (cr_all G.calm)) (soundE L a G h) vr_all)
  | .indexOf a b, sc, fn, X, m, e, W, G, h => by
    rw [chkE] at h
    cases q : asMeth e with
    | none => rw [q] at h; cases h
    | some u =>
      obtain ⟨o, n, x⟩ := u
      rw [q] at h
      simp only [Bool.and_eq_true, decide_eq_true_eq, Option.isNone_iff_eq_none] at h
      obtain ⟨⟨⟨⟨rfl, h1⟩, h2⟩, h3⟩, h4⟩ := h
      obtain ⟨ap, cp, rfl, hl⟩ := asMeth_eq q
      exact sndOf (se_index (fun ta tb ha hb => pe_bm PySem.F.plainAttrs_list PySem.F.slot_list_index PySem.F.type_list_index (mt_indexD (by have := G.room.un; omega)) ha (pa_cons hb pa_nil (starEach_plain h2)) (plainO_of h1) (by rw [starEach_plain h2]; rfl) hl (starEach_plain h2)) (soundE (m := .v true) L a G h3) (soundE (m := .v true) L b G h4))
  | .ix a i, sc, fn, X, m, e, W, G, h => by
    rw [chkE] at h
    cases q : asSub e with
    | none => rw [q] at h; cases h
    | some u =>
      obtain ⟨x, y⟩ := u
      rw [q] at h
      obtain ⟨pp, rfl⟩ := asSub_eq q
      simp only [Bool.and_eq_true, Option.isNone_iff_eq_none] at h
      exact sndOf (se2 (v := fun st => ixV st) (fun ta tb ha hb => pe_ix ix_seq ha hb (plainIx_of h.1.1)) (soundE L a G h.1.2) (soundE L i G h.2) vr_ix)
  | .sl a lo hi, sc, fn, X, m, e, W, G, h => by
    rw [chkE] at h
    cases q : asSub e with
    | none => rw [q] at h; cases h
    | some u =>
      obtain ⟨x, y⟩ := u
      rw [q] at h
      obtain ⟨pp, rfl⟩ := asSub_eq q
      dsimp only at h
      split at h
      · rename_i l hh q2
        obtain ⟨p2, rfl⟩ := asSlice_eq q2
        simp only [Bool.and_eq_true] at h
        exact sndOf (se_sl (fun ta tl th ha hl hh => pe_slice (sl_list.or sl_tupA) ha hl hh) (soundE L a G h.1.1) (soundO L lo G h.1.2) (soundO L hi G h.2))
      · cases h
  | .comp elt tg it ifs own, sc, fn, X, m, e, W, G, h => sndOf (sF_v (F_comp G h (fun tp x hx => soundE (m := .i true tp) L it G hx) (fun G' hx => soundF L ifs G' hx) (fun G' hx => soundE (m := .v false) L elt G' hx)))
  | .rng1 a, sc, fn, X, m, e, W, G, h => by
    rw [chkE, Bool.and_eq_true] at h
    cases m with
    | v b => cases h.1
    | i b tp =>
      have h2 := h.2
      cases q : call1 sc "range" e with
      | none => rw [q] at h2; cases h2
      | some x =>
        rw [q] at h2
        intro tgt _
        obtain ⟨qn, pp, rfl, g, hs⟩ := call1_of q
        obtain ⟨g1, g2, g3⟩ := G.gl g
        exact si_rng1 (fun ta ha => pi_range1 g1 (by rw [G.hmg]; exact L.bi _ (by decide +kernel)) (pa_cons ha pa_nil (starEach_plain hs)) (starEach_plain hs)) (soundE L a G h2)
  | .rng2 a b, sc, fn, X, m, e, W, G, h => by
    rw [chkE, Bool.and_eq_true] at h
    cases m with
    | v b => cases h.1
    | i bb tp =>
      have h2 := h.2
      cases q : call2 sc "range" e with
      | none => rw [q] at h2; cases h2
      | some u =>
        obtain ⟨x, y⟩ := u
        rw [q] at h2
        simp only [Bool.and_eq_true] at h2
        intro tgt _
        obtain ⟨qn, pp, rfl, g, hs, hs2⟩ := call2_of q
        obtain ⟨g1, g2, g3⟩ := G.gl g
        exact si_rng2 (fun ta tb ha hb => pi_range2 g1 (by rw [G.hmg]; exact L.bi _ (by decide +kernel)) (pa_cons ha (pa_cons hb pa_nil (starEach_plain hs2)) (starEach_plain hs)) (by rw [starEach_plain hs, starEach_plain hs2]; rfl) (starEach_plain hs2)) (soundE L a G h2.1) (soundE L b G h2.2)
  | .zip2 a b, sc, fn, X, m, e, W, G, h => by
    rw [chkE, Bool.and_eq_true, Bool.and_eq_true] at h
    cases m with
    | v b => cases h.1.1
    | i bb tp =>
      have h2 := h.2
      have htp : tp = true := h.1.2
      cases q : call2 sc "zip" e with
      | none => rw [q] at h2; cases h2
      | some u =>
        obtain ⟨x, y⟩ := u
        rw [q] at h2
        simp only [Bool.and_eq_true] at h2
        intro tgt ht
        obtain ⟨es, kk, p2, rfl⟩ := ht htp
        obtain ⟨qn, pp, rfl, g, hs, hs2⟩ := call2_of q
        obtain ⟨g1, g2, g3⟩ := G.gl g
        exact si_zip (fun ta tb ha hb => RZ.pi_zipA g1 (by rw [G.hmg]; exact L.bi _ (by decide +kernel)) (pa_cons ha (pa_cons hb pa_nil (starEach_plain hs2)) (starEach_plain hs)) (starEach_plain hs) (noStars_any (by unfold noStars; simp [hs2]))) (soundE L a G h2.1) (soundE L b G h2.2)
  | .repr a, sc, fn, X, m, e, W, G, h => by
    rw [chkE] at h
    cases q : call1 sc "repr" e with
    | none => rw [q] at h; cases h
    | some x =>
      rw [q] at h
      exact sndOf (se1 (v := fun _ => reprV) (G.bi1 L q (by decide +kernel) PyProof.Rows.boot_repr (cr_repr G.gd G.room.units)) (soundE (m := .v true) L a G h) vr_repr)
  | .dct kvs, sc, fn, X, m, e, W, G, h => by
    rw [chkE] at h
    cases q : asDct e with
    | none => rw [q] at h; cases h
    | some u =>
      obtain ⟨ks, vs, pp⟩ := u
      rw [q] at h
      obtain rfl := asDct_eq q
      simp only [Bool.and_eq_true, decide_eq_true_eq] at h
      exact sndOf (se_dct (soundD L kvs G h.2) h.1.1.1.1 h.1.1.1.2 h.1.1.2 h.1.2)
  | .dget a i, sc, fn, X, m, e, W, G, h => by
    rw [chkE] at h
    cases q : asSub e with
    | none => rw [q] at h; cases h
    | some u =>
      obtain ⟨x, y⟩ := u
      rw [q] at h
      obtain ⟨pp, rfl⟩ := asSub_eq q
      simp only [Bool.and_eq_true, Option.isNone_iff_eq_none] at h
      exact sndOf (se_dget (fun ta tb ha hb => pe_dget (by have := G.room.un; omega) ha hb (plainIx_of h.1.1)) (soundE (m := .v true) L a G h.1.2) (soundE (m := .v true) L i G h.2))
theorem soundD (L : Lib p k S Φ) : ∀ (cs : Cs) {sc : Scope} {fn : Str → Bool} {X : Cx} {ks : List (Option Expr)} {vs : List Expr} {pos : Pos} {W : Wx}, Good p k S.N sc fn X → chkD S sc fn cs ks vs = true → SPs X W pos ks vs (evs Φ cs)
  | .nil, sc, fn, X, [], [], pos, W, G, h => sp_nil
  | .cons a (.cons b r), sc, fn, X, some x :: xs, y :: ys, pos, W, G, h => by
    rw [chkD, Bool.and_eq_true, Bool.and_eq_true] at h
    exact sp_cons (soundE (m := .v false) L a G h.1.1) (soundE (m := .v false) L b G h.1.2) (soundD L r G h.2)
  | .nil, sc, fn, X, _ :: _, _, pos, W, G, h => Bool.noConfusion (show false = true from h)
  | .nil, sc, fn, X, [], _ :: _, pos, W, G, h => Bool.noConfusion (show false = true from h)
  | .star a r, sc, fn, X, ks, vs, pos, W, G, h => Bool.noConfusion (show false = true from h)
  | .cons a .nil, sc, fn, X, ks, vs, pos, W, G, h => Bool.noConfusion (show false = true from h)
  | .cons a (.star b r), sc, fn, X, ks, vs, pos, W, G, h => Bool.noConfusion (show false = true from h)
  | .cons a (.cons b r), sc, fn, X, [], vs, pos, W, G, h => Bool.noConfusion (show false = true from h)
  | .cons a (.cons b r), sc, fn, X, none :: xs, vs, pos, W, G, h => Bool.noConfusion (show false = true from h)
  | .cons a (.cons b r), sc, fn, X, some x :: xs, [], pos, W, G, h => Bool.noConfusion (show false = true from h)
theorem soundA (L : Lib p k S Φ) : ∀ (cs : Cs) {sc : Scope} {fn : Str → Bool} {X : Cx} {es : List Expr} {W : Wx}, Good p k S.N sc fn X → chkA S sc fn cs es = true → PA X es (tvs X.K W (evs Φ cs))
  | .nil, sc, fn, X, [], W, G, h => sa_nil
  | .cons a r, sc, fn, X, e :: es, W, G, h => by
    rw [chkA, Bool.and_eq_true, Bool.and_eq_true, Option.isNone_iff_eq_none] at h
    exact sa_cons (fun ta tb ha hb => pa_cons ha hb (starEach_plain h.1.1)) (soundE L a G h.1.2) (soundA L r G h.2)
  | .star a r, sc, fn, X, e :: es, W, G, h => by
    rw [chkA, Bool.and_eq_true] at h
    cases q : asStar e with
    | none => rw [q] at h; cases h.1
    | some x =>
      rw [q] at h
      obtain ⟨pp, rfl⟩ := asStar_eq q
      exact sa_star (fun ta tb ha hb => StX.pa_star ha hb rfl) (soundE L a G h.1) (soundA L r G h.2)
  | .nil, sc, fn, X, _ :: _, W, G, h => Bool.noConfusion (show false = true from h)
  | .cons a r, sc, fn, X, [], W, G, h => Bool.noConfusion (show false = true from h)
  | .star a r, sc, fn, X, [], W, G, h => Bool.noConfusion (show false = true from h)
theorem soundO (L : Lib p k S Φ) : ∀ (cs : Cs) {sc : Scope} {fn : Str → Bool} {X : Cx} {o : Option Expr} {W : Wx}, Good p k S.N sc fn X → chkO S sc fn cs o = true → PO X o (tvo X.K W (evo Φ cs))
  | .nil, sc, fn, X, none, W, G, h => so_nil
  | .cons a .nil, sc, fn, X, some e, W, G, h => by
    rw [chkO] at h
    exact so_one (soundE L a G h)
  | .nil, sc, fn, X, some _, W, G, h => Bool.noConfusion (show false = true from h)
  | .cons a .nil, sc, fn, X, none, W, G, h => Bool.noConfusion (show false = true from h)
  | .cons a (.cons b r), sc, fn, X, o, W, G, h => by cases o <;> exact Bool.noConfusion (show false = true from h)
  | .cons a (.star b r), sc, fn, X, o, W, G, h => by cases o <;> exact Bool.noConfusion (show false = true from h)
  | .star a r, sc, fn, X, o, W, G, h => by cases o <;> exact Bool.noConfusion (show false = true from h)
theorem soundF (L : Lib p k S Φ) : ∀ (cs : Cs) {sc : Scope} {fn : Str → Bool} {X : Cx} {fs : List Expr} {W : Wx}, Good p k S.N sc fn X → chkF S sc fn cs fs = true → PTs X fs (tvbb X.K W (evt Φ cs))
  | .nil, sc, fn, X, [], W, G, h => sts_nil
  | .cons a .nil, sc, fn, X, [e], W, G, h => by
    rw [chkF] at h
    exact sts_one (soundT L a G h)
  | .nil, sc, fn, X, _ :: _, W, G, h => Bool.noConfusion (show false = true from h)
  | .cons a .nil, sc, fn, X, [], W, G, h => Bool.noConfusion (show false = true from h)
  | .cons a .nil, sc, fn, X, _ :: _ :: _, W, G, h => Bool.noConfusion (show false = true from h)
  | .cons a (.cons b r), sc, fn, X, fs, W, G, h => Bool.noConfusion (show false = true from h)
  | .cons a (.star b r), sc, fn, X, fs, W, G, h => Bool.noConfusion (show false = true from h)
  | .star a r, sc, fn, X, fs, W, G, h => Bool.noConfusion (show false = true from h)
theorem soundT (L : Lib p k S Φ) : ∀ (c : C) {sc : Scope} {fn : Str → Bool} {X : Cx} {e : Expr} {W : Wx}, Good p k S.N sc fn X → chkT S sc fn c e = true → PT X e (tvbb X.K W (asB (ev Φ c)))
  | .not a, sc, fn, X, e, W, G, h => by
    rw [chkT] at h
    cases q : asUn e with
    | none => rw [q] at h; cases h
    | some t =>
      obtain ⟨o, x⟩ := t
      rw [q] at h
      obtain ⟨pp, rfl⟩ := asUn_eq q
      simp only [Bool.and_eq_true, decide_eq_true_eq] at h
      obtain ⟨rfl, h1⟩ := h
      exact st_not (fun t ht => pt_not ht) (soundT L a G h1)
  | .and a b, sc, fn, X, e, W, G, h => by
    rw [chkT] at h
    split at h
    · rename_i x y pp q
      obtain rfl := asBool_eq q
      rw [Bool.and_eq_true] at h
      exact (sw_and (fun t u ht hu => pw_and ht hu) (soundT L a G h.1) (pw_and1 (soundT L b G h.2))).pt
    · rename_i x y z r pp q
      obtain rfl := asBool_eq q
      rw [Bool.and_eq_true] at h
      exact (sw_and (fun t u ht hu => pw_and ht hu) (soundT L a G h.1) (pw_bool (soundT L b G h.2))).pt
    · cases h
  | .or a b, sc, fn, X, e, W, G, h => by
    rw [chkT] at h
    split at h
    · rename_i x y pp q
      obtain rfl := asBool_eq q
      rw [Bool.and_eq_true] at h
      exact (sw_or (fun t u ht hu => pw_or ht hu) (soundT L a G h.1) (pw_or1 (soundT L b G h.2))).pt
    · rename_i x y z r pp q
      obtain rfl := asBool_eq q
      rw [Bool.and_eq_true] at h
      exact (sw_or (fun t u ht hu => pw_or ht hu) (soundT L a G h.1) (pw_bool (soundT L b G h.2))).pt
    · cases h
  | .cmp op a b, sc, fn, X, e, W, G, h => by
    rw [chkT] at h
    cases q : asCmp e with
    | none => rw [q] at h; cases h
    | some t =>
      obtain ⟨l, o, r⟩ := t
      rw [q] at h
      obtain ⟨pp, rfl⟩ := asCmp_eq q
      simp only [Bool.and_eq_true, decide_eq_true_eq, Bool.not_eq_true'] at h
      obtain ⟨⟨⟨rfl, h0⟩, h1⟩, h2⟩ := h
      exact st_cmp (pt_cmpR (opr_cmp G.room.units op) (soundE (m := .v true) L a G h1) (soundE (m := .v true) L b G h2) (marks_of h0)) (w2 (v := fun _ x y => (cmpV op x y).map .bl) (vr_cmp op))
  | .call f es, sc, fn, X, e, W, G, h => by
    rw [chkT] at h
    cases q : asCall e with
    | none => rw [q] at h; cases h
    | some u =>
      obtain ⟨x, xs⟩ := u
      rw [q] at h
      simp only [Bool.and_eq_true, decide_eq_true_eq, Bool.not_eq_true'] at h
      obtain ⟨⟨⟨⟨⟨h0, h1⟩, h2⟩, h3⟩, h4⟩, h5⟩ := h
      refine asB_ev ?_ ((G.call L q h1 h2 h3 h5 (fun z => by subst z; cases es <;> first | rfl | exact Bool.noConfusion (show false = true from h4)) (soundA L es G h4)).1 h0 _)
      obtain ⟨_, _, rfl⟩ := asCall_eq q
      rfl
  | .isa a t, sc, fn, X, e, W, G, h => by
    rw [chkT] at h
    cases q : call2 sc "isinstance" e with
    | none => rw [q] at h; cases h
    | some u =>
      obtain ⟨x, y⟩ := u
      rw [q] at h
      simp only [Bool.and_eq_true, decide_eq_true_eq] at h
      refine asB_ev ?_ (G.isi L q h.1.1 h.1.2 (soundE (m := .v true) L a G h.2))
      obtain ⟨_, _, rfl, _⟩ := call2_of q
      rfl
  | .all a, sc, fn, X, e, W, G, h => by
    rw [chkT] at h
    cases q : call1 sc "all" e with
    | none => rw [q] at h; cases h
    | some x =>
      rw [q] at h
      refine asB_ev ?_ (se1 (v := fun _ => allV) (G.bi1 L q (by decide +kernel) PyProof.Rows.boot_all (cr_all G.calm)) (soundE (m := .v true) L a G h) vr_all)
      obtain ⟨_, _, rfl, _⟩ := call1_of q
      rfl
  | .var i, sc, fn, X, e, W, G, h => by
    rw [chkT] at h
    refine asB_ev ?_ (se_var (G.var h))
    obtain ⟨_, _, rfl, _⟩ := isNm_of h
    rfl
  | .ix a i, sc, fn, X, e, W, G, h => by
    rw [chkT] at h
    cases q : asSub e with
    | none => rw [q] at h; cases h
    | some u =>
      obtain ⟨x, y⟩ := u
      rw [q] at h
      obtain ⟨pp, rfl⟩ := asSub_eq q
      simp only [Bool.and_eq_true, Option.isNone_iff_eq_none] at h
      exact asB_ev rfl (se2 (v := fun st => ixV st) (fun ta tb ha hb => pe_ix ix_seq ha hb (plainIx_of h.1.1)) (soundE (m := .v true) L a G h.1.2) (soundE (m := .v true) L i G h.2) vr_ix)
  | .bl b, sc, fn, X, e, W, G, h => by
    rw [chkT, decide_eq_true_eq] at h
    obtain ⟨kk, pp, rfl⟩ := asConst_eq h
    exact asB_ev rfl (se_c (fun _ _ => .bl b) pe_bl)
  | .bor _, _, _, _, _, _, _, h => Bool.noConfusion (show false = true from h)
  | .int _, _, _, _, _, _, _, h => Bool.noConfusion (show false = true from h)
  | .str _, _, _, _, _, _, _, h => Bool.noConfusion (show false = true from h)
  | .non, _, _, _, _, _, _, h => Bool.noConfusion (show false = true from h)
  | .bin .., _, _, _, _, _, _, h => Bool.noConfusion (show false = true from h)
  | .neg _, _, _, _, _, _, _, h => Bool.noConfusion (show false = true from h)
  | .ite .., _, _, _, _, _, _, h => Bool.noConfusion (show false = true from h)
  | .tup _, _, _, _, _, _, _, h => Bool.noConfusion (show false = true from h)
  | .lst _, _, _, _, _, _, _, h => Bool.noConfusion (show false = true from h)
  | .len _, _, _, _, _, _, _, h => Bool.noConfusion (show false = true from h)
  | .toInt _, _, _, _, _, _, _, h => Bool.noConfusion (show false = true from h)
  | .tupleOf _, _, _, _, _, _, _, h => Bool.noConfusion (show false = true from h)
  | .listOf _, _, _, _, _, _, _, h => Bool.noConfusion (show false = true from h)
  | .indexOf .., _, _, _, _, _, _, h => Bool.noConfusion (show false = true from h)
  | .sl .., _, _, _, _, _, _, h => Bool.noConfusion (show false = true from h)
  | .comp .., _, _, _, _, _, _, h => Bool.noConfusion (show false = true from h)
  | .rng1 _, _, _, _, _, _, _, h => Bool.noConfusion (show false = true from h)
  | .rng2 .., _, _, _, _, _, _, h => Bool.noConfusion (show false = true from h)
  | .zip2 .., _, _, _, _, _, _, h => Bool.noConfusion (show false = true from h)
  | .repr _, _, _, _, _, _, _, h => Bool.noConfusion (show false = true from h)
  | .dct _, _, _, _, _, _, _, h => Bool.noConfusion (show false = true from h)
  | .dget .., _, _, _, _, _, _, h => Bool.noConfusion (show false = true from h)
end
/-- what makes a new list -/
theorem soundN (L : Lib p k S Φ) {c : C} {sc : Scope} {fn : Str → Bool} {X : Cx} {m : Md} {e : Expr} {W : Wx} (G : Good p k S.N sc fn X) (h : chkE S sc fn m c e = true) (hc : (match c with
    | .lst _ => true
    | .listOf _ => true
    | .comp .. => true
    | _ => false) = true) : PE X e (tvF X.K W (ev Φ c)) := by
  cases c with
  | lst es => exact F_lst h fun xs hx => soundA L es G hx
  | listOf a => exact F_listOf L G h fun x hx => soundE (m := .v true) L a G hx
  | comp elt tg it ifs own => exact F_comp G h (fun tp x hx => soundE (m := .i true tp) L it G hx) (fun G' hx => soundF L ifs G' hx) (fun G' hx => soundE (m := .v false) L elt G' hx)
  | _ => cases hc
end
end Ev
namespace Ev
open PySem L2
/-! ### statements -/
def RetP (K : PySem.W.Frag) (fr : Bool) (g : Gh) (ω : Wd) (H : Hp) (x : V) (t : PV) : Prop := if fr then FreshP K g.H0 ω H x t else Rep K ω H x t
def postS (K : PySem.W.Frag) (fr : Bool) (g : Gh) (ω : Wd) (H : Hp) (W : Wx) (r : RS) (D : Ends) : Prop := match r with
  | .nx ρ' st' => ∀ σ' H' ω', Ext ω H ω' H' → Rel K g ω' ρ' st' σ' H' → D.nx σ' H'
  | .bk ρ' st' => ∀ σ' H' ω', Ext ω H ω' H' → Rel K g ω' ρ' st' σ' H' → D.bk σ' H'
  | .ct ρ' st' => ∀ σ' H' ω', Ext ω H ω' H' → Rel K g ω' ρ' st' σ' H' → D.ct σ' H'
  | .rt v st' => ∀ x ρ' σ' H' ω', Rel K g ω' ρ' st' σ' H' → RetP K fr g ω' H' x v → D.rt x H'
  | .exc e ρ' st' => ∀ σ' H' ω', Ext ω H ω' H' → Rel K g ω' ρ' st' σ' H' → W e g ω' ρ' st' σ' H'
  | .bad => False
def ts (K : PySem.W.Frag) (fr : Bool) (W : Wx) (f : En → Cel → RS) : TS := fun D σ H => ∃ g ω ρ st, Rel K g ω ρ st σ H ∧ postS K fr g ω H W (f ρ st) D
theorem wPS {X : Cx} {s : Stmt} {t t' : TS} (h : PS X s t) (i : ∀ D σ H, t' D σ H → t D σ H) : PS X s t' := ⟨fun pins s σ H D I q => h.run pins s σ H D I (i _ _ _ q)⟩
theorem wPSs {X : Cx} {s : List Stmt} {t t' : TS} (h : PSs X s t) (i : ∀ D σ H, t' D σ H → t D σ H) : PSs X s t' := ⟨fun pins s σ H D I q => h.run pins s σ H D I (i _ _ _ q)⟩
section
variable {K : PySem.W.Frag} {g : Gh} {ω ω' : Wd} {ρ : En} {st st' : Cel} {σ : St} {H H' : Hp} {X : Cx} {fr : Bool}
/-- exceptions within an expression of a statement -/
theorem postS.ext {W : Wx} {r : RS} {D : Ends} (h : postS K fr g ω H W r D) (x : Ext ω H ω' H') : postS K fr g ω' H' W r D := by
  cases r with
  | nx ρ1 st1 => exact fun σ2 H2 ω2 y rel => h σ2 H2 ω2 (x.trans y) rel
  | bk ρ1 st1 => exact fun σ2 H2 ω2 y rel => h σ2 H2 ω2 (x.trans y) rel
  | ct ρ1 st1 => exact fun σ2 H2 ω2 y rel => h σ2 H2 ω2 (x.trans y) rel
  | rt v st1 => exact h
  | exc e ρ1 st1 => exact fun σ2 H2 ω2 y rel => h σ2 H2 ω2 (x.trans y) rel
  | bad => exact h
theorem thenG {α β : Type} {P : RX α β} {W : Wx} {f : En → Cel → R α} {k : α → Cel → RS} {D : Ends} (r : Rel K g ω ρ st σ H) (h : postS K fr g ω H W ((f ρ st).then ρ k) D) :
    tG P K W f σ H (fun x H1 => ∃ ω1 st1 t, ExtE ω H ω1 H1 ∧ Rel K g ω1 ρ st1 σ H1 ∧ P ω1 H1 x t ∧ postS K fr g ω1 H1 W (k t st1) D) := by
  refine ⟨g, ω, ρ, st, r, ?_⟩
  cases e : f ρ st with
  | ok t s =>
    rw [e] at h
    exact fun x H1 ω1 x1 c p => ⟨ω1, s, t, x1, r.extE x1 c, p, postS.ext h (x1.ext r.cells)⟩
  | exc x s =>
    rw [e] at h
    exact fun H1 ω1 x1 c => h σ H1 ω1 (x1.ext r.cells) (r.extE x1 c)
  | bad => rw [e] at h; exact h
theorem thenF {W : Wx} {f : En → Cel → R PV} {k : PV → Cel → RS} {D : Ends} (r : Rel K g ω ρ st σ H) (h : postS K fr g ω H W ((f ρ st).then ρ k) D) :
    tvF K W f σ H (fun x H1 => ∃ ω1 st1 t, ExtE ω H ω1 H1 ∧ Rel K g ω1 ρ st1 σ H1 ∧ FreshP K H ω1 H1 x t ∧ postS K fr g ω1 H1 W (k t st1) D) := by
  refine ⟨g, ω, ρ, st, r, ?_⟩
  cases e : f ρ st with
  | ok t s =>
    rw [e] at h
    exact fun x H1 ω1 x1 c p => ⟨ω1, s, t, x1, r.extE x1 c, p, postS.ext h (x1.ext r.cells)⟩
  | exc x s =>
    rw [e] at h
    exact fun H1 ω1 x1 c => h σ H1 ω1 (x1.ext r.cells) (r.extE x1 c)
  | bad => rw [e] at h; exact h
theorem tvF.mono {W : Wx} {f : En → Cel → R PV} {Q Q' : VK} (h : tvF K W f σ H Q) (i : ∀ x H, Q x H → Q' x H) : tvF K W f σ H Q' := by
  obtain ⟨g, ω, ρ, st, r, h⟩ := h
  refine ⟨g, ω, ρ, st, r, ?_⟩
  cases e : f ρ st with
  | ok t s => rw [e] at h; exact fun x H' ω' y c p => i _ _ (h x H' ω' y c p)
  | exc x s => rw [e] at h; exact h
  | bad => rw [e] at h; exact h
theorem postNx {W : Wx} {D : Ends} {ρ' : En} (h : postS K fr g ω H W (.nx ρ' st') D) {σ' : St} (r : Rel K g ω ρ' st' σ' H) : D.nx σ' H := h σ' H ω (Ext.refl _ _) r
variable {W : Wx} {e a b : Expr} {s : Stmt}
theorem ss_ret {f : En → Cel → R PV} (hps : ∀ t, PE X e t → PS X s (tRet t)) (h : PE X e (tv X.K false W f)) : PS X s (ts X.K false W fun ρ st => (f ρ st).then ρ fun x st => .rt x st) :=
  wPS (hps _ h) fun D σ H ⟨g, ω, ρ, st, rel, q⟩ => (thenG (P := RepM X.K false) rel q).mono fun x H1 ⟨ω1, st1, t, x1, rel1, p, q⟩ => q x ρ σ H1 ω1 rel1 p.rep
theorem ss_retF {f : En → Cel → R PV} (hps : ∀ t, PE X e t → PS X s (tRet t)) (h : PE X e (tvF X.K W f)) : PS X s (ts X.K true W fun ρ st => (f ρ st).then ρ fun x st => .rt x st) :=
  wPS (hps _ h) fun D σ H ⟨g, ω, ρ, st, rel, q⟩ => (thenF rel q).mono fun x H1 ⟨ω1, st1, t, x1, rel1, p, q⟩ => by
    obtain ⟨p0, vs, tt, e1, e2, h1, h2⟩ := p
    exact q x ρ σ H1 ω1 rel1 ⟨p0, vs, tt, e1, e2, rel.none0 h1, h2⟩
theorem ss_expr {f : En → Cel → R PV} (hps : ∀ t, PE X e t → PS X s (tDrop t)) (h : PE X e (tv X.K true W f)) : PS X s (ts X.K fr W fun ρ st => (f ρ st).then ρ fun _ st => .nx ρ st) :=
  wPS (hps _ h) fun D σ H ⟨g, ω, ρ, st, rel, q⟩ => (thenG (P := RepM X.K true) rel q).mono fun x H1 ⟨ω1, st1, t, x1, rel1, p, q⟩ => postNx q rel1
theorem ss_asg {f : En → Cel → R PV} {tg : List Nat} {T : TE} (hps : PS X s (tAsg T (gAsg X.K tg))) (hw : ∀ σ H Q, tv X.K false W f σ H Q → T σ H Q) : PS X s (ts X.K fr W fun ρ st => (f ρ st).then ρ fun x st => match assignT tg x ρ with
    | some ρ1 => .nx ρ1 st
    | none => .bad) :=
  wPS hps fun D σ H ⟨g, ω, ρ, st, rel, q⟩ => hw σ H _ ((thenG (P := RepM X.K false) rel q).mono fun x H1 ⟨ω1, st1, t, x1, rel1, p, q⟩ => by
    cases ea : assignT tg t ρ with
    | none => rw [ea] at q; exact q.elim
    | some ρ1 =>
      rw [ea] at q
      exact gAsg_ok rel1 p.rep ea fun vs r => postNx q r)
/-- a name owns a new list -/
theorem Rel.setOwn (r : Rel K g ω ρ st σ H) (i : Nat) {p : Addr} {vs : List V} {ts : List PV} (hp : H p = some (.lst vs)) (hs : ¬ ω.S p) (hc : p ∉ ω.cs) (h0 : g.H0 p = none) (rl : RepL K ω H vs ts)
    (hn : ∀ (j : Nat) (u : PV), ρ[j]? = some (Slot.own u) → σ[j]? ≠ some (some (V.ref p))) : Rel K g ω (ρ.set i (.own (.lst ts))) st (σ.set i (some (.ref p))) H := by
  refine ⟨by simp [r.len], fun j u hj => ?_, fun j u hj => ?_, fun j k u w a hj hk h1 h2 => ?_, r.cells, r.base, r.sub, r.new, r.csp, r.csn, r.cs0⟩
  · rcases get_set hj with ⟨rfl, e⟩ | ⟨ne, e⟩
    · cases e
    · obtain ⟨v', e1, r1⟩ := r.val j u e
      exact ⟨v', by rw [List.getElem?_set_ne ne]; exact e1, r1⟩
  · rcases get_set hj with ⟨rfl, e⟩ | ⟨ne, e⟩
    · cases e
      exact ⟨p, by rw [List.getElem?_set_self (by rw [r.len]; exact lt_of_set hj)], ⟨vs, ts, rfl, hp, rl⟩, hs, hc, h0⟩
    · obtain ⟨a, e1, r1⟩ := r.own j u e
      exact ⟨a, by rw [List.getElem?_set_ne ne]; exact e1, r1⟩
  · rcases get_set hj with ⟨rfl, e⟩ | ⟨ne, e⟩
    · rcases get_set hk with ⟨rfl, e'⟩ | ⟨ne', e'⟩
      · rfl
      · rw [List.getElem?_set_self (by rw [r.len]; exact lt_of_set hj)] at h1
        cases h1
        rw [List.getElem?_set_ne ne'] at h2
        exact absurd h2 (hn k w e')
    · rcases get_set hk with ⟨rfl, e'⟩ | ⟨ne', e'⟩
      · rw [List.getElem?_set_self (by rw [r.len]; exact lt_of_set hk)] at h2
        cases h2
        rw [List.getElem?_set_ne ne] at h1
        exact absurd h1 (hn j u e)
      · rw [List.getElem?_set_ne ne] at h1
        rw [List.getElem?_set_ne ne'] at h2
        exact r.sep j k u w a e e' h1 h2
theorem fresh_notOwn {p : Addr} (rel : Rel K g ω ρ st σ H) (h : H p = none) : ∀ (j : Nat) (u : PV), ρ[j]? = some (Slot.own u) → σ[j]? ≠ some (some (V.ref p)) := fun j u hj z => by
  obtain ⟨a, e1, ⟨vs, ts, _, e2, _⟩, _⟩ := rel.own j u hj
  rw [z] at e1
  cases e1
  rw [h] at e2; cases e2
theorem ss_asgO {f : En → Cel → R PV} {i : Nat} {T : TE} (hps : PS X s (tAsg T (gName i))) (hw : ∀ σ H Q, tvF X.K W f σ H Q → T σ H Q) : PS X s (ts X.K fr W fun ρ st => (f ρ st).then ρ fun x st => match x with
    | .lst xs => .nx (ρ.set i (.own (.lst xs))) st
    | _ => .bad) :=
  wPS hps fun D σ H ⟨g, ω, ρ, st, rel, q⟩ => hw σ H _ ((thenF rel q).mono fun x H1 ⟨ω1, st1, t, x1, rel1, p, q⟩ => by
    obtain ⟨p0, vs, tt, rfl, rfl, h1, h2, h3, h4, h5⟩ := p
    exact postNx q (rel1.setOwn i h2 h3 h4 (rel.none0 h1) h5 fun j u hj => fresh_notOwn rel h1 j u hj))
/-- a new cell -/
theorem Rel.newCell (r : Rel K g ω ρ st σ H) (i : Nat) {p : Addr} {vs : List V} {ts : List PV} (hp : H p = some (.lst vs)) (hs : ¬ ω.S p) (hc : p ∉ ω.cs) (h0 : g.H0 p = none) (rl : RepL K ω H vs ts)
    (hn : ∀ (j : Nat) (u : PV), ρ[j]? = some (Slot.own u) → σ[j]? ≠ some (some (V.ref p))) : Rel K g ⟨ω.S, ω.cs ++ [p]⟩ (ρ.set i (.val (.cell st.length))) (st ++ [.lst ts]) (σ.set i (some (.ref p))) H := by
  have x : Ext ω H ⟨ω.S, ω.cs ++ [p]⟩ H := ⟨fun _ z => z, ⟨[p], rfl⟩, fun _ _ z _ => z⟩
  have hl := r.cells.len
  have c : CelOk K ⟨ω.S, ω.cs ++ [p]⟩ (st ++ [.lst ts]) H := by
    refine ⟨by simp [hl], ?_, fun a ha => ?_, r.cells.trk, fun k a ha => ?_⟩
    · show (ω.cs ++ [p]).Nodup
      rw [List.nodup_append]
      exact ⟨r.cells.nd, by simp, fun a ha b hb => by
        simp at hb
        rintro rfl
        exact hc (hb ▸ ha)⟩
    · rcases List.mem_append.mp ha with z | z
      · exact r.cells.out a z
      · simp at z; rw [z]; exact hs
    · change (ω.cs ++ [p])[k]? = some a at ha
      by_cases hk : k < ω.cs.length
      · rw [List.getElem?_append_left hk] at ha
        obtain ⟨ws, us, q1, q2, q3⟩ := r.cells.at_ k a ha
        exact ⟨ws, us, prefix_get q1, q2, q3.mono x⟩
      · have hk' : k = ω.cs.length := by
          rcases Nat.lt_or_ge k (ω.cs.length + 1) with z | z
          · omega
          · rw [List.getElem?_eq_none (by simp; omega)] at ha; cases ha
        subst hk'
        rw [List.getElem?_append_right (Nat.le_refl _)] at ha
        simp at ha
        subst ha
        exact ⟨vs, ts, by rw [hl, List.getElem?_append_right (Nat.le_refl _)]; simp, hp, rl.mono x⟩
  refine ⟨by simp [r.len], fun j u hj => ?_, fun j u hj => ?_, fun j k u w a hj hk h1 h2 => ?_, c, r.base, r.sub, r.new, ?_, fun a ha => ?_, r.cs0⟩
  · rcases get_set hj with ⟨rfl, e⟩ | ⟨ne, e⟩
    · cases e
      exact ⟨.ref p, by rw [List.getElem?_set_self (by rw [r.len]; exact lt_of_set hj)], .cell (by show (ω.cs ++ [p])[st.length]? = _; rw [← hl, List.getElem?_append_right (Nat.le_refl _)]; simp)⟩
    · obtain ⟨v', e1, r1⟩ := r.val j u e
      exact ⟨v', by rw [List.getElem?_set_ne ne]; exact e1, r1.mono x⟩
  · rcases get_set hj with ⟨rfl, e⟩ | ⟨ne, e⟩
    · cases e
    · obtain ⟨a, e1, ⟨ws, us, q1, q2, q3⟩, n1, n2, n3⟩ := r.own j u e
      refine ⟨a, by rw [List.getElem?_set_ne ne]; exact e1, ⟨ws, us, q1, q2, q3.mono x⟩, n1, fun z => ?_, n3⟩
      rcases List.mem_append.mp z with z | z
      · exact n2 z
      · simp at z
        subst z
        exact hn j u e e1
  · rcases get_set hj with ⟨rfl, e⟩ | ⟨ne, e⟩
    · cases e
    · rcases get_set hk with ⟨rfl, e'⟩ | ⟨ne', e'⟩
      · cases e'
      · rw [List.getElem?_set_ne ne] at h1
        rw [List.getElem?_set_ne ne'] at h2
        exact r.sep j k u w a e e' h1 h2
  · obtain ⟨m, q⟩ := r.csp
    exact ⟨m ++ [p], by show ω.cs ++ [p] = _; rw [q, List.append_assoc]⟩
  · rcases List.mem_append.mp ha with z | z
    · exact r.csn a z
    · simp at z; rw [z]; exact .inr h0
theorem ss_asgC {f : En → Cel → R PV} {i : Nat} {T : TE} (hps : PS X s (tAsg T (gName i))) (hw : ∀ σ H Q, tvF X.K W f σ H Q → T σ H Q) : PS X s (ts X.K fr W fun ρ st => (f ρ st).then ρ fun x st => match x with
    | .lst xs => .nx (ρ.set i (.val (.cell st.length))) (st ++ [.lst xs])
    | _ => .bad) :=
  wPS hps fun D σ H ⟨g, ω, ρ, st, rel, q⟩ => hw σ H _ ((thenF rel q).mono fun x H1 ⟨ω1, st1, t, x1, rel1, p, q⟩ => by
    obtain ⟨p0, vs, tt, rfl, rfl, h1, h2, h3, h4, h5⟩ := p
    exact q _ H1 ⟨ω1.S, ω1.cs ++ [p0]⟩ ⟨fun _ z => z, ⟨[p0], rfl⟩, fun _ _ z _ => z⟩ (rel1.newCell i h2 h3 h4 (rel.none0 h1) h5 fun j u hj => fresh_notOwn rel h1 j u hj))
end
end Ev
namespace Ev
open PySem L2
section
variable {K : PySem.W.Frag} {g : Gh} {ω ω' : Wd} {ρ : En} {st st' : Cel} {σ : St} {H H' : Hp} {X : Cx} {fr : Bool} {W : Wx} {e a b : Expr} {s : Stmt}
/-- an owned list changes -/
theorem Rel.updOwn (r : Rel K g ω ρ st σ H) {i : Nat} {p : Addr} {u : PV} {vs : List V} {ts : List PV} (hi : ρ[i]? = some (Slot.own u)) (hp : σ[i]? = some (some (V.ref p))) (rl : RepL K ω H vs ts) : Rel K g ω (ρ.set i (.own (.lst ts))) st σ (upd H p (.lst vs)) := by
  obtain ⟨a, e1, ⟨ws, us, q1, q2, q3⟩, n1, n2, n3⟩ := r.own i u hi
  rw [hp] at e1
  cases e1
  have x : Ext ω H ω (upd H p (.lst vs)) := extUpd q2 n1
  have il : i < ρ.length := by
    rcases Nat.lt_or_ge i ρ.length with z | z
    · exact z
    · rw [List.getElem?_eq_none z] at hi; cases hi
  refine ⟨by simp [r.len], fun j w hj => ?_, fun j w hj => ?_, fun j k w z a hj hk h1 h2 => ?_, r.cells.upd q2 n1 n2, fun a o h hc => ?_, r.sub, r.new, r.csp, r.csn, r.cs0⟩
  · rcases get_set hj with ⟨rfl, e⟩ | ⟨ne, e⟩
    · cases e
    · obtain ⟨v', e1, r1⟩ := r.val j w e
      exact ⟨v', e1, r1.mono x⟩
  · rcases get_set hj with ⟨rfl, e⟩ | ⟨ne, e⟩
    · cases e
      exact ⟨p, hp, ⟨vs, ts, rfl, upd_same, rl.mono x⟩, n1, n2, n3⟩
    · obtain ⟨a, e1, ⟨ws', us', q1', q2', q3'⟩, m1, m2, m3⟩ := r.own j w e
      have nea : a ≠ p := fun z => ne (r.sep i j u w p hi e hp (by rw [← z]; exact e1))
      exact ⟨a, e1, ⟨ws', us', q1', by rw [upd_ne nea]; exact q2', q3'.mono x⟩, m1, m2, m3⟩
  · have f : ∀ (j : Nat) (w : PV), (ρ.set i (.own (.lst ts)))[j]? = some (Slot.own w) → ∃ w', ρ[j]? = some (Slot.own w') := fun j w hj => by
      rcases get_set hj with ⟨rfl, e⟩ | ⟨ne, e⟩
      · exact ⟨u, hi⟩
      · exact ⟨w, e⟩
    obtain ⟨w', hw⟩ := f j w hj
    obtain ⟨z', hz⟩ := f k z hk
    exact r.sep j k w' z' a hw hz h1 h2
  · rw [upd_ne (fun z => by rw [z, n3] at h; cases h)]
    exact r.base a o h hc
/-- a cell changes -/
theorem Rel.updCell (r : Rel K g ω ρ st σ H) {k : Nat} {p : Addr} {vs : List V} {ts : List PV} (hk : ω.cs[k]? = some p) (rl : RepL K ω H vs ts) : Rel K g ω ρ (st.set k (.lst ts)) σ (upd H p (.lst vs)) := by
  have hm : p ∈ ω.cs := List.mem_of_getElem? hk
  obtain ⟨ws, us, c1, c2, c3⟩ := r.cells.at_ k p hk
  have n1 := r.cells.out p hm
  have x : Ext ω H ω (upd H p (.lst vs)) := extUpd c2 n1
  have c : CelOk K ω (st.set k (.lst ts)) (upd H p (.lst vs)) := by
    refine ⟨by simp [r.cells.len], r.cells.nd, r.cells.out, fun a z => ?_, fun j a ha => ?_⟩
    · obtain ⟨o, q⟩ := r.cells.trk a z
      exact ⟨o, by rw [upd_ne (fun e => n1 (by rw [← e]; exact z))]; exact q⟩
    · by_cases e : k = j
      · subst e
        rw [hk] at ha
        cases ha
        have kl : k < st.length := by
          rcases Nat.lt_or_ge k st.length with z | z
          · exact z
          · rw [List.getElem?_eq_none z] at c1; cases c1
        exact ⟨vs, ts, by rw [List.getElem?_set_self kl], upd_same, rl.mono x⟩
      · obtain ⟨ws', us', q1, q2, q3⟩ := r.cells.at_ j a ha
        have nea : a ≠ p := fun z => by
          subst z
          have jl : j < ω.cs.length := by
            rcases Nat.lt_or_ge j ω.cs.length with z | z
            · exact z
            · rw [List.getElem?_eq_none z] at ha; cases ha
          exact e ((List.getElem?_inj (by
            rcases Nat.lt_or_ge k ω.cs.length with z | z
            · exact z
            · rw [List.getElem?_eq_none z] at hk; cases hk) r.cells.nd).mp (hk.trans ha.symm))
        exact ⟨ws', us', by rw [List.getElem?_set_ne e]; exact q1, by rw [upd_ne nea]; exact q2, q3.mono x⟩
  refine ⟨r.len, fun j w hj => ?_, fun j w hj => ?_, r.sep, c, fun a o h hc => ?_, r.sub, r.new, r.csp, r.csn, r.cs0⟩
  · obtain ⟨v', e1, r1⟩ := r.val j w hj
    exact ⟨v', e1, r1.mono x⟩
  · obtain ⟨a, e1, ⟨ws', us', q1', q2', q3'⟩, m1, m2, m3⟩ := r.own j w hj
    have nea : a ≠ p := fun z => m2 (by rw [z]; exact hm)
    exact ⟨a, e1, ⟨ws', us', q1', by rw [upd_ne nea]; exact q2', q3'.mono x⟩, m1, m2, m3⟩
  · rw [upd_ne (fun z => ?_)]
    · exact r.base a o h hc
    · subst z
      rcases r.csn a hm with z | z
      · exact hc z
      · rw [h] at z; cases z
theorem ss_setI {f fo fi : En → Cel → R PV} (hps : ∀ te to ti, PE X e te → PE X a to → PE X b ti → PS X s (tAsg te (gSub to ti rSetL))) (he : PE X e (tv X.K false W f)) (ho : PE X a (tv X.K false W fo)) (hi : PE X b (tv X.K false W fi)) :
    PS X s (ts X.K fr W fun ρ st => (f ρ st).then ρ fun x st => (fo ρ st).then ρ fun o st => (fi ρ st).then ρ fun j st => match o, j with
      | .cell k, .int j => (match st[k]? with
        | some (.lst xs) => (match ixP xs.length j with
          | some n => .nx ρ (st.set k (.lst (xs.set n x)))
          | none => .bad)
        | _ => .bad)
      | _, _ => .bad) := by
  refine wPS (hps _ _ _ he ho hi) fun D σ H ⟨g, ω, ρ, st, rel, q⟩ => (thenG (P := RepM X.K false) rel q).mono fun x H1 ⟨ω1, st1, t, x1, rel1, p, q⟩ => ?_
  refine (thenG (P := RepM X.K false) (f := fo) rel1 q).mono fun o H2 ⟨ω2, st2, t2, x2, rel2, p2, q2⟩ => ?_
  refine (thenG (P := RepM X.K false) (f := fi) rel2 q2).mono fun j H3 ⟨ω3, st3, t3, x3, rel3, p3, q3⟩ => ?_
  cases t2 with
  | cell k =>
    cases t3 with
    | int n =>
      dsimp only at q3
      obtain ⟨a0, rfl, ha⟩ := (p2.extE x3 rel2.cells).cell
      obtain ⟨vs, us, c1, c2, c3⟩ := rel3.cells.at_ k a0 ha
      rw [c1] at q3
      dsimp only at q3
      cases en : ixP us.length n with
      | none => rw [en] at q3; exact q3.elim
      | some m =>
        rw [en] at q3
        have px := ((p.extE x2 rel1.cells).extE x3 rel2.cells).rep
        refine ⟨a0, vs, n, m, rfl, p3.int, c2, by rw [c3.length]; exact en, ?_⟩
        refine q3 σ _ ω3 (extUpd c2 (rel3.cells.out a0 (List.mem_of_getElem? ha))) (rel3.updCell ha (c3.set px m))
    | _ => exact q3.elim
  | _ => exact q3.elim
theorem ss_app {f : En → Cel → R PV} {i : Nat} (hps : ∀ te to, PE X e te → PE X a to → PS X s (tDrop (tBM X.K "list" rAppend to (tCons te tNil)))) (ha : PE X a (tVar i)) (he : PE X e (tv X.K false W f)) :
    PS X s (ts X.K fr W fun ρ st => match ρ[i]? with
      | some (.own (.lst xs)) => (f ρ st).then ρ fun x st => if szOk (xs.length + 1) then .nx (ρ.set i (.own (.lst (xs ++ [x])))) st else .bad
      | _ => .bad) := by
  refine wPS (hps _ _ he ha) fun D σ H ⟨g, ω, ρ, st, rel, q⟩ => ?_
  dsimp only at q
  split at q
  · rename_i xs hi
    obtain ⟨p0, hp, ⟨vs, us, e1, e2, e3⟩, n1, n2, n3⟩ := rel.own i _ hi
    cases e1
    refine ⟨.ref p0, hp, .inl ⟨rfl, vs, .inl (.inl e2)⟩, (thenG (P := RepM X.K false) (f := f) rel q).mono fun x H1 ⟨ω1, st1, t, x1, rel1, p, q⟩ => ?_⟩
    have e2' := x1.keep _ _ e2 n2
    have n1' : ¬ ω1.S p0 := fun z => by
      rcases x1.newS p0 z with z | z
      · exact n1 z
      · rw [e2] at z; cases z
    by_cases hz : szOk (xs.length + 1) = true
    · rw [if_pos hz] at q
      have hz' := szOk_le hz
      refine ⟨p0, vs, x, rfl, rfl, e2', by rw [e3.length]; omega, ?_⟩
      exact q σ _ ω1 (extUpd e2' n1') (rel1.updOwn hi hp ((e3.mono (x1.ext rel.cells)).append (.cons p.rep .nil)))
    · rw [if_neg hz] at q; exact q.elim
  · exact q.elim
theorem ss_ext {f : En → Cel → R PV} {i : Nat} (hps : ∀ te to, PE X e te → PE X a to → PS X s (tDrop (tBM X.K "list" rExtend to (tCons te tNil)))) (ha : PE X a (tVar i)) (he : PE X e (tv X.K false W f)) :
    PS X s (ts X.K fr W fun ρ st => match ρ[i]? with
      | some (.own (.lst xs)) => (f ρ st).then ρ fun x st => match x with
        | .lst ys => if szOk (xs.length + ys.length) then .nx (ρ.set i (.own (.lst (xs ++ ys)))) st else .bad
        | _ => .bad
      | _ => .bad) := by
  refine wPS (hps _ _ he ha) fun D σ H ⟨g, ω, ρ, st, rel, q⟩ => ?_
  dsimp only at q
  split at q
  · rename_i xs hi
    obtain ⟨p0, hp, ⟨vs, us, e1, e2, e3⟩, n1, n2, n3⟩ := rel.own i _ hi
    cases e1
    refine ⟨.ref p0, hp, .inl ⟨rfl, vs, .inl (.inl e2)⟩, (thenG (P := RepM X.K false) (f := f) rel q).mono fun x H1 ⟨ω1, st1, t, x1, rel1, p, q⟩ => ?_⟩
    have e2' := x1.keep _ _ e2 n2
    have n1' : ¬ ω1.S p0 := fun z => by
      rcases x1.newS p0 z with z | z
      · exact n1 z
      · rw [e2] at z; cases z
    cases t with
    | lst ys =>
      dsimp only at q
      obtain ⟨b0, ws, rfl, hb, rb⟩ := p.lst
      by_cases hz : szOk (xs.length + ys.length) = true
      · rw [if_pos hz] at q
        have hz' := szOk_le hz
        refine ⟨p0, b0, vs, ws, rfl, rfl, e2', hb, by rw [e3.length, rb.length]; exact hz', ?_⟩
        exact q σ _ ω1 (extUpd e2' n1') (rel1.updOwn hi hp ((e3.mono (x1.ext rel.cells)).append rb))
      · rw [if_neg hz] at q; exact q.elim
    | _ => exact q.elim
  · exact q.elim
theorem then_asB (r : R PV) (ρ : En) (k1 k2 : Cel → RS) : r.then ρ (fun x st => ifB x (k1 st) (k2 st)) = (r.bind fun x st => R.of (blV x) st).then ρ fun b st => if b then k1 st else k2 st := by
  cases r with
  | ok x st => cases x <;> try rfl
               rename_i b; cases b <;> rfl
  | exc e st => rfl
  | bad => rfl
theorem ss_if {ft : En → Cel → R PV} {f f' : En → Cel → RS} {c : Expr} {as bs : List Stmt} (hps : ∀ tt ta tb, PT X c tt → PSs X as ta → PSs X bs tb → PS X s (tIfS tt ta tb)) (hc : PT X c (tvbb X.K W (asB ft))) (ha : PSs X as (ts X.K fr W f)) (hb : PSs X bs (ts X.K fr W f')) :
    PS X s (ts X.K fr W fun ρ st => (ft ρ st).then ρ fun x st => ifB x (f ρ st) (f' ρ st)) := by
  refine wPS (hps _ _ _ hc ha hb) fun D σ H ⟨g, ω, ρ, st, rel, q⟩ => ?_
  dsimp only at q
  rw [then_asB (ft ρ st) ρ (fun st => f ρ st) (fun st => f' ρ st)] at q
  refine (thenG (P := RBB) (f := asB ft) rel q).mono fun x H1 ⟨ω1, st1, t, x1, rel1, p, q⟩ => ?_
  cases (show t = x from p)
  cases x with
  | true => exact ⟨g, ω1, ρ, st1, rel1, q⟩
  | false => exact ⟨g, ω1, ρ, st1, rel1, q⟩
theorem ss_pass (h : PS X s tNext) : PS X s (ts X.K fr W fun ρ st => .nx ρ st) := wPS h fun D σ H ⟨g, ω, ρ, st, rel, q⟩ => postNx q rel
theorem ss_brk (h : PS X s tBreak) : PS X s (ts X.K fr W fun ρ st => .bk ρ st) := wPS h fun D σ H ⟨g, ω, ρ, st, rel, q⟩ => q σ H ω (Ext.refl _ _) rel
theorem ss_cnt (h : PS X s tCont) : PS X s (ts X.K fr W fun ρ st => .ct ρ st) := wPS h fun D σ H ⟨g, ω, ρ, st, rel, q⟩ => q σ H ω (Ext.refl _ _) rel
theorem sss_nil : PSs X [] (ts X.K fr W fun ρ st => .nx ρ st) := wPSs pss_nil fun D σ H ⟨g, ω, ρ, st, rel, q⟩ => postNx q rel
theorem seqS {f : En → Cel → RS} {f' : En → Cel → RS} {D : Ends} (rel : Rel K g ω ρ st σ H) (q : postS K fr g ω H W ((f ρ st).seq f') D) : ts K fr W f { D with nx := fun σ1 H1 => ts K fr W f' D σ1 H1 } σ H := by
  refine ⟨g, ω, ρ, st, rel, ?_⟩
  cases e1 : f ρ st with
  | nx ρ1 st1 =>
    rw [e1] at q
    exact fun σ' H' ω' x r => ⟨g, ω', ρ1, st1, r, postS.ext q x⟩
  | bk ρ1 st1 => rw [e1] at q; exact q
  | ct ρ1 st1 => rw [e1] at q; exact q
  | rt v st1 => rw [e1] at q; exact q
  | exc x ρ1 st1 => rw [e1] at q; exact q
  | bad => rw [e1] at q; exact q
theorem sss_cons {f f' : En → Cel → RS} {ss : List Stmt} (h1 : PS X s (ts X.K fr W f)) (h2 : PSs X ss (ts X.K fr W f')) : PSs X (s :: ss) (ts X.K fr W fun ρ st => (f ρ st).seq fun ρ st => f' ρ st) :=
  wPSs (pss_cons h1 h2) fun D σ H ⟨g, ω, ρ, st, rel, q⟩ => seqS rel q
/-- a list is owned no more -/
theorem Rel.frz (r : Rel K g ω ρ st σ H) {i : Nat} {u : PV} (hi : ρ[i]? = some (Slot.own u)) : ∃ ω', Ext ω H ω' H ∧ Rel K g ω' (ρ.set i (.val u)) st σ H := by
  obtain ⟨p, hp, ⟨vs, us, rfl, q2, q3⟩, n1, n2, n3⟩ := r.own i u hi
  have x : Ext ω H (ω.add p) H := ⟨fun _ z => .inl z, ⟨[], by simp [Wd.add]⟩, fun _ _ z _ => z⟩
  refine ⟨ω.add p, x, ⟨by simp [r.len], fun j w hj => ?_, fun j w hj => ?_, fun j k w z a hj hk h1 h2 => ?_, r.cells.add n2 q2, r.base, fun a h => .inl (r.sub a h), fun a h => ?_, r.csp, r.csn, r.cs0⟩⟩
  · rcases get_set hj with ⟨rfl, e⟩ | ⟨ne, e⟩
    · cases e
      exact ⟨.ref p, hp, .lst (.inr rfl) q2 (q3.mono x)⟩
    · obtain ⟨v', e1, r1⟩ := r.val j w e
      exact ⟨v', e1, r1.mono x⟩
  · rcases get_set hj with ⟨rfl, e⟩ | ⟨ne, e⟩
    · cases e
    · obtain ⟨a, e1, ⟨ws', us', q1', q2', q3'⟩, m1, m2, m3⟩ := r.own j w e
      refine ⟨a, e1, ⟨ws', us', q1', q2', q3'.mono x⟩, fun z => ?_, m2, m3⟩
      rcases z with z | z
      · exact m1 z
      · subst z
        exact ne (r.sep i j _ w a hi e hp e1)
  · rcases get_set hj with ⟨rfl, e⟩ | ⟨ne, e⟩
    · cases e
    · rcases get_set hk with ⟨rfl, e'⟩ | ⟨ne', e'⟩
      · cases e'
      · exact r.sep j k w z a e e' h1 h2
  · rcases h with h | h
    · exact r.new a h
    · rw [h]; exact .inr n3
theorem sss_frz {f : En → Cel → RS} {i : Nat} {ss : List Stmt} (h : PSs X ss (ts X.K fr W f)) : PSs X ss (ts X.K fr W fun ρ st => (match ρ[i]? with
    | some (.own v) => RS.nx (ρ.set i (.val v)) st
    | _ => .nx ρ st).seq fun ρ st => f ρ st) := by
  refine wPSs h fun D σ H ⟨g, ω, ρ, st, rel, q⟩ => ?_
  dsimp only at q
  split at q
  · rename_i v hi
    obtain ⟨ω', x, r'⟩ := rel.frz hi
    exact ⟨g, ω', _, st, r', postS.ext q x⟩
  · exact ⟨g, ω, ρ, st, rel, q⟩
theorem gPar_ok : ∀ (is : List Nat) {vs : List V} {ts : List PV} {ρ : En} {σ : St}, Rel K g ω ρ st σ H → RepL K ω H vs ts → vs.length = is.length → Rel K g ω (setAll ρ (is.zip ts)) st (setS σ is vs) H
  | [], _, _, _, _, r, .nil, _ => r
  | i :: is, _, _, ρ, σ, r, .cons h hs, hl => gPar_ok is (r.set i h) hs (by simpa using hl)
theorem ss_par {f : En → Cel → R (List PV)} {is : List Nat} {es : List Expr} (hps : PS X s (fun D σ H => tvs X.K W f σ H fun vs H1 => vs.length = is.length ∧ D.nx (setS σ is vs) H1)) :
    PS X s (ts X.K fr W fun ρ st => (f ρ st).then ρ fun xs st => if xs.length = is.length then .nx ((is.zip xs).foldl (fun ρ p => set1 ρ p.1 p.2) ρ) st else .bad) :=
  wPS hps fun D σ H ⟨g, ω, ρ, st, rel, q⟩ => (thenG (P := RepL X.K) rel q).mono fun vs H1 ⟨ω1, st1, t, x1, rel1, p, q⟩ => by
    by_cases hl : t.length = is.length
    · rw [if_pos hl] at q
      exact ⟨by rw [p.length]; exact hl, postNx q (gPar_ok is rel1 p (by rw [p.length]; exact hl))⟩
    · rw [if_neg hl] at q; exact q.elim
theorem ss_ustar {f : En → Cel → R PV} {is : List Nat} {j : Nat} (hps : PS X s (tAsg (tv X.K false W f) (gStar X.K is.length (gNames (is ++ [j]))))) : PS X s (ts X.K fr W fun ρ st => (f ρ st).then ρ fun x st => match x with
    | .tup xs => if is.length ≤ xs.length ∧ xs.length ≤ 16384 then .nx (set1 ((is.zip (xs.take is.length)).foldl (fun ρ p => set1 ρ p.1 p.2) ρ) j (.lst (xs.drop is.length))) st else .bad
    | _ => .bad) :=
  wPS hps fun D σ H ⟨g, ω, ρ, st, rel, q⟩ => (thenG (P := RepM X.K false) rel q).mono fun x H1 ⟨ω1, st1, t, x1, rel1, p, q⟩ => by
    cases t with
    | tup xs =>
      obtain ⟨a, vs, rfl, hT, rv⟩ := p.tup
      dsimp only at q
      by_cases hl : is.length ≤ xs.length ∧ xs.length ≤ 16384
      · rw [if_pos hl] at q
        refine ⟨a, vs, rfl, hT, by rw [rv.length]; exact hl.1, by rw [rv.length]; exact hl.2, fun d hd => ?_⟩
        have gr : Grow ω1 H1 (ω1.add d) (upd H1 d (.lst (vs.drop is.length))) := Grow.add hd
        have rl : RepL X.K (ω1.add d) (upd H1 d (.lst (vs.drop is.length))) (vs.take is.length ++ [.ref d]) (xs.take is.length ++ [.lst (xs.drop is.length)]) :=
          ((rv.take _).mono gr.ext).append (.cons (.lst (.inr rfl) upd_same ((rv.drop _).mono gr.ext)) .nil)
        refine gNames_ok (is ++ [j]) (rel1.grow gr) rl (by rw [List.length_append, List.length_take, rv.length, Nat.min_eq_left hl.1]; simp) fun r' => ?_
        have ez : setAll ρ ((is ++ [j]).zip (xs.take is.length ++ [.lst (xs.drop is.length)])) = set1 ((is.zip (xs.take is.length)).foldl (fun ρ p => set1 ρ p.1 p.2) ρ) j (.lst (xs.drop is.length)) := by
          unfold setAll
          rw [List.zip_append (by rw [List.length_take, Nat.min_eq_left hl.1]), List.foldl_append]
          rfl
        rw [ez] at r'
        exact q _ _ _ gr.ext r'
      · rw [if_neg hl] at q; exact q.elim
    | _ => exact q.elim
end
end Ev
namespace Ev
open PySem L2
section
variable {K : PySem.W.Frag} {g : Gh} {ω ω' : Wd} {ρ : En} {st st' : Cel} {σ : St} {H H' : Hp} {X : Cx} {fr : Bool} {W : Wx} {e a b : Expr} {s : Stmt}
def bodyF (f : En → Cel → RS) (tg : List Nat) : PV → En → Cel → RS := fun x ρ st => match assignT tg x ρ with
  | some ρ1 => f ρ1 st
  | none => .bad
theorem ss_for {fi : En → Cel → R PV} {f : En → Cel → RS} {tg : List Nat} {t it : Expr} {body : List Stmt} (hps : ∀ wi gt tb, PI X t it wi → PG X t gt → PSs X body tb → PS X s (tFor wi gt tb)) (hi : PI X t it (ti X.K false W fi)) (hg : PG X t (gAsg X.K tg)) (hb : PSs X body (ts X.K fr W f)) :
    PS X s (ts X.K fr W fun ρ st => (fi ρ st).then ρ fun iv st => match itemsOf iv with
      | some xs => forL (bodyF f tg) xs ρ st
      | none => .bad) := by
  refine wPS (hps _ _ _ hi hg hb) fun D σ H ⟨g, ω, ρ, st, rel, q⟩ => ?_
  refine ⟨g, ω, ρ, st, rel, ?_⟩
  dsimp only at q
  cases e1 : fi ρ st with
  | bad => rw [e1] at q; exact q
  | exc x s1 =>
    rw [e1] at q
    exact fun H1 ω1 x1 c => q σ H1 ω1 (x1.ext rel.cells) (rel.extE x1 c)
  | ok iv s1 =>
    rw [e1] at q
    simp only [R.then_ok] at q
    cases e2 : itemsOf iv with
    | none => rw [e2] at q; exact q.elim
    | some xs =>
      rw [e2] at q
      refine ⟨xs, e2, fun J H1 ω1 x1 c1 hJ => ?_⟩
      refine ⟨fun i m σ' H' => m = xs.length - i ∧ i ≤ xs.length ∧ ∃ ω' ρ' st', Ext ω1 H1 ω' H' ∧ Rel X.K g ω' ρ' st' σ' H' ∧ postS X.K fr g ω' H' W (forL (bodyF f tg) (xs.drop i) ρ' st') D,
        ⟨xs.length, by simp, Nat.zero_le _, ω1, ρ, s1, Ext.refl _ _, rel.extE x1 c1, postS.ext q (x1.ext rel.cells)⟩, ?_⟩
      rintro i m σ2 H2 ⟨rfl, hi, ω2, ρ2, st2, x2, rel2, q2⟩
      obtain ⟨go, stop, yld⟩ := hJ ω2 H2 x2 (fun z => by cases z)
      rcases Nat.lt_or_ge i xs.length with hlt | hge
      rotate_left
      · have ei : i = xs.length := by omega
        subst ei
        rw [List.drop_length] at q2
        exact .inl ⟨stop, postNx q2 rel2⟩
      · refine .inr ⟨go i hlt, fun σ' H' => i + 1 ≤ xs.length ∧ ∃ ω' ρ' st', Ext ω1 H1 ω' H' ∧ Rel X.K g ω' ρ' st' σ' H' ∧ postS X.K fr g ω' H' W (forL (bodyF f tg) (xs.drop (i + 1)) ρ' st') D,
          fun σ' H' hN => ⟨xs.length - (i + 1), by omega, rfl, hN.1, hN.2⟩, fun x H3 hy => ?_⟩
        obtain ⟨ω3, t3, w3, ex, rx⟩ := yld i x H3 hlt hy
        have rel3 := rel2.grow w3
        have x3 : Ext ω1 H1 ω3 H3 := x2.trans w3.ext
        have q3 := postS.ext q2 w3.ext
        rw [drop_cons ex] at q3
        unfold forL at q3
        cases ea : assignT tg t3 ρ2 with
        | none =>
          unfold bodyF at q3
          rw [ea] at q3
          exact q3.elim
        | some ρ3 =>
          have ef : bodyF f tg t3 ρ2 st2 = f ρ3 st2 := by
            unfold bodyF
            rw [ea]
          rw [ef] at q3
          refine gAsg_ok rel3 rx ea fun ws relT => ⟨g, ω3, ρ3, st2, relT, ?_⟩
          cases eb : f ρ3 st2 with
          | nx ρ4 st4 =>
            rw [eb] at q3
            exact fun σ4 H4 ω4 x4 rel4 => ⟨hlt, ω4, ρ4, st4, x3.trans x4, rel4, postS.ext q3 x4⟩
          | ct ρ4 st4 =>
            rw [eb] at q3
            exact fun σ4 H4 ω4 x4 rel4 => ⟨hlt, ω4, ρ4, st4, x3.trans x4, rel4, postS.ext q3 x4⟩
          | bk ρ4 st4 => rw [eb] at q3; exact q3
          | rt v st4 => rw [eb] at q3; exact q3
          | exc x4 ρ4 st4 => rw [eb] at q3; exact q3
          | bad => rw [eb] at q3; exact q3
theorem ss_while {ft : En → Cel → R PV} {f : En → Cel → RS} {n : Nat} {c : Expr} {body : List Stmt} (hps : ∀ tt tb, PT X c tt → PSs X body tb → PS X s (tWhile tt tb)) (hc : PT X c (tvbb X.K W (asB ft))) (hb : PSs X body (ts X.K fr W f)) :
    PS X s (ts X.K fr W fun ρ st => whileL ft f n ρ st) := by
  refine wPS (hps _ _ hc hb) fun D σ H ⟨g, ω, ρ, st, rel, q⟩ => ?_
  refine ⟨fun m σ' H' => ∃ ω' ρ' st', Ext ω H ω' H' ∧ Rel X.K g ω' ρ' st' σ' H' ∧ postS X.K fr g ω' H' W (whileL ft f m ρ' st') D, ⟨n, ω, ρ, st, Ext.refl _ _, rel, q⟩, ?_⟩
  rintro m σ2 H2 ⟨ω2, ρ2, st2, x2, rel2, q2⟩
  cases m with
  | zero => exact q2.elim
  | succ m =>
    unfold whileL at q2
    rw [then_asB (ft ρ2 st2) ρ2 (fun st => nextL (f ρ2 st) fun ρ1 st1 => whileL ft f m ρ1 st1) (fun st => .nx ρ2 st)] at q2
    refine (thenG (P := RBB) (f := asB ft) rel2 q2).mono fun x H3 ⟨ω3, st3, t, x3, rel3, p, q3⟩ => ?_
    cases (show t = x from p)
    have x23 : Ext ω H ω3 H3 := x2.trans (x3.ext rel2.cells)
    cases x with
    | false => exact postNx q3 rel3
    | true =>
      rw [if_pos rfl]
      rw [if_pos rfl] at q3
      refine ⟨fun σ' H' => ∃ ω' ρ' st', Ext ω H ω' H' ∧ Rel X.K g ω' ρ' st' σ' H' ∧ postS X.K fr g ω' H' W (whileL ft f m ρ' st') D, fun σ' H' hN => ⟨m, Nat.lt_succ_self m, hN⟩, ⟨g, ω3, ρ2, st3, rel3, ?_⟩⟩
      cases eb : f ρ2 st3 with
      | nx ρ4 st4 =>
        rw [eb] at q3
        exact fun σ4 H4 ω4 x4 rel4 => ⟨ω4, ρ4, st4, x23.trans x4, rel4, postS.ext q3 x4⟩
      | ct ρ4 st4 =>
        rw [eb] at q3
        exact fun σ4 H4 ω4 x4 rel4 => ⟨ω4, ρ4, st4, x23.trans x4, rel4, postS.ext q3 x4⟩
      | bk ρ4 st4 => rw [eb] at q3; exact q3
      | rt v st4 => rw [eb] at q3; exact q3
      | exc x4 ρ4 st4 => rw [eb] at q3; exact q3
      | bad => rw [eb] at q3; exact q3
end
end Ev
namespace Ev
open PySem L2
/-! ### views of statements -/
def asAsg : Stmt → Option (Expr × Expr × Pos)
  | .Assign [t] v p => some (t, v, p)
  | _ => none
def asExp : Stmt → Option (Expr × Pos)
  | .Expr v p => some (v, p)
  | _ => none
def asIfS : Stmt → Option (Expr × List Stmt × List Stmt)
  | .If c a b _ => some (c, a, b)
  | _ => none
def asForS : Stmt → Option (Expr × Expr × List Stmt)
  | .For t i b [] _ => some (t, i, b)
  | _ => none
def asWhl : Stmt → Option (Expr × List Stmt)
  | .While c b [] _ => some (c, b)
  | _ => none
def asRet : Stmt → Option Expr
  | .Return (some v) _ => some v
  | _ => none
def kindS : Stmt → Nat
  | .Pass _ => 1
  | .Break _ => 2
  | .Continue _ => 3
  | .Return none _ => 4
  | _ => 0
section
variable {s : Stmt}
theorem asAsg_eq {t v : Expr} {p : Pos} (h : asAsg s = some (t, v, p)) : s = .Assign [t] v p := by
  unfold asAsg at h
  split at h
  · cases h; rfl
  · cases h
theorem asExp_eq {v : Expr} {p : Pos} (h : asExp s = some (v, p)) : s = .Expr v p := by
  unfold asExp at h
  split at h
  · cases h; rfl
  · cases h
theorem asIfS_eq {c : Expr} {a b : List Stmt} (h : asIfS s = some (c, a, b)) : ∃ p, s = .If c a b p := by
  unfold asIfS at h
  split at h
  · cases h; exact ⟨_, rfl⟩
  · cases h
theorem asForS_eq {t i : Expr} {b : List Stmt} (h : asForS s = some (t, i, b)) : ∃ p, s = .For t i b [] p := by
  unfold asForS at h
  split at h
  · cases h; exact ⟨_, rfl⟩
  · cases h
theorem asWhl_eq {c : Expr} {b : List Stmt} (h : asWhl s = some (c, b)) : ∃ p, s = .While c b [] p := by
  unfold asWhl at h
  split at h
  · cases h; exact ⟨_, rfl⟩
  · cases h
theorem asRet_eq {v : Expr} (h : asRet s = some v) : ∃ p, s = .Return (some v) p := by
  unfold asRet at h
  split at h
  · cases h; exact ⟨_, rfl⟩
  · cases h
theorem kindS_1 (h : kindS s = 1) : ∃ p, s = .Pass p := by
  unfold kindS at h
  split at h <;> first | exact ⟨_, rfl⟩ | cases h
theorem kindS_2 (h : kindS s = 2) : ∃ p, s = .Break p := by
  unfold kindS at h
  split at h <;> first | exact ⟨_, rfl⟩ | cases h
theorem kindS_3 (h : kindS s = 3) : ∃ p, s = .Continue p := by
  unfold kindS at h
  split at h <;> first | exact ⟨_, rfl⟩ | cases h
theorem kindS_4 (h : kindS s = 4) : ∃ p, s = .Return none p := by
  unfold kindS at h
  split at h <;> first | exact ⟨_, rfl⟩ | cases h
end
/-! ### what an assignment asks -/
def compScope : Expr → Option Scope
  | .ListComp _ _ s _ => some s
  | .SetComp _ _ s _ => some s
  | .DictComp _ _ _ s _ => some s
  | _ => none
/-- name = [..]: the name is stored within the comprehension's frame -/
def swCond (sc : Scope) (t v : Expr) : Bool := match compScope v, t with
  | some s, .Name x p => sc.kind == .function && sc.names.lookup x == some .local && p.line == v.pos.line && !(s.names.any fun (n, k) => n == x && (k == .local || k == .cell))
  | _, _ => false
def isFnS (sc : Scope) : Bool := decide (sc.kind = .function)
theorem blockKind_of {env : Env} (h : isFnS env.scope = true) : env.blockKind = .function := by
  unfold isFnS at h
  rw [decide_eq_true_eq] at h
  unfold Env.blockKind
  rw [h]
  rfl
theorem sw_eq {t v : Expr} {l : Nat} {env : Env} (h : isFnS env.scope = true) : swapsWithSole [t] v l env = pure (swCond env.scope t v) := by
  have hb := blockKind_of h
  have hk : (env.scope.kind == ScopeKind.function) = true := by
    unfold isFnS at h
    rw [decide_eq_true_eq] at h
    rw [h]; rfl
  unfold swapsWithSole swapsWith swCond
  cases v <;> first
    | rfl
    | (cases t <;> first
        | rfl
        | (simp only [compScope, hb, hk, Bool.true_and]; rfl))
/-- the targets' names of a, b = x, y, where the stores are swapped -/
def swNames (sc : Scope) (ts vs : List Expr) : Option (List Str) :=
  if (!(ts.length == 2 || ts.length == 3) || vs.length != ts.length || sc.kind != .function) = true then none
  else if (vs.any fun | .Starred .. => true | _ => false) = true then none
  else
    let line := (ts.head?.map (·.pos.line)).getD 0
    let names := ts.filterMap fun
      | .Name id pos => if sc.names.lookup id == some .local && pos.line == line then some id else none
      | _ => none
    if (names.length != ts.length || names.eraseDups.length != names.length) = true then none
    else if (vs.all (foldedForSure 8)) = true then none
    else some names
def swOk (vs : List Expr) : Bool := vs.all (foldedForSure 8) || !vs.all (constantsAlone 8)
theorem sws_eq {ts vs : List Expr} {k k2 : Nat} {p p2 : Pos} {env : Env} (h : isFnS env.scope = true) (hv : swOk vs = true) : swappedStores [.Tuple ts k p] (.Tuple vs k2 p2) env = pure (swNames env.scope ts vs) := by
  have hb := blockKind_of h
  have hk : env.scope.kind = .function := by unfold isFnS at h; rw [decide_eq_true_eq] at h; exact h
  unfold swappedStores swNames
  simp only [hb, hk]
  split
  · rfl
  · split
    · rename_i h2
      exact congrArg pure (if_pos h2).symm
    · rename_i h2
      refine Eq.trans ?_ (congrArg pure (if_neg h2).symm)
      split
      · rename_i h3
        exact congrArg pure (if_pos h3).symm
      · rename_i h3
        refine Eq.trans ?_ (congrArg pure (if_neg h3).symm)
        split
        · rfl
        · rename_i h4
          have h5 : vs.all (constantsAlone 8) = false := by
            unfold swOk at hv
            rw [Bool.or_eq_true] at hv
            rcases hv with hv | hv
            · exact absurd hv h4
            · simpa using hv
          rw [h5]
          rfl
theorem sws_none {t v : Expr} {env : Env} (h : asTup t = none ∨ asTup v = none) (ht : asLst t = none) : swappedStores [t] v env = pure none := by
  unfold swappedStores
  cases t <;> first
    | rfl
    | (simp [asLst] at ht; done)
    | (rcases h with h | h
       · simp [asTup] at h
       · cases v <;> first | rfl | (simp [asTup] at h; done))
/-- how an assignment goes: none; the comprehension's way; or it isn't told -/
inductive AsW where
  | plain | lc | no
def asgWay (sc : Scope) (t v : Expr) : AsW :=
  if !isFnS sc || (asLst t).isSome then .no
  else if swCond sc t v then .lc
  else match asTup t, asTup v with
    | some ts, some vs => if swOk vs && (swNames sc ts vs).isNone then .plain else .no
    | _, _ => .plain
end Ev
namespace Ev
open PySem L2
def isNew : C → Bool
  | .lst _ => true
  | .listOf _ => true
  | .comp .. => true
  | _ => false
def asgLc : AsW → Bool
  | .lc => true
  | _ => false
def asgPl : AsW → Bool
  | .plain => true
  | _ => false
section
variable (S : Sx)
/-- a new list: made here, or handed back by a def that makes one -/
def chkN (sc : Scope) (fn : Str → Bool) (c : C) (e : Expr) : Bool := match c with
  | .call f es => (match asCall e with
    | some (x, xs) => S.fr f && decide (x = S.nm f) && S.kn f && glB sc x && chkA S sc fn es xs && starOk xs
    | none => false)
  | c => isNew c && chkE S sc fn (.v false) c e
/-- all names, local, in one line -/
def chkPar (N : List Str) (sc : Scope) : List Nat → List Expr → Bool
  | [], [] => true
  | i :: is, e :: es => (match asName e with
    | some x => decide (N[i]? = some x) && decide (sc.names.lookup x = some .local)
    | none => false) && chkPar N sc is es
  | _, _ => false
/-- names, then a starred one -/
def chkUs (N : List Str) (sc : Scope) (fn : Str → Bool) : List Nat → Nat → List Expr → Bool
  | [], j, [e] => (match asStar e with
    | some x => chkTg1 N sc fn j x
    | none => false)
  | i :: is, j, e :: es => chkTg1 N sc fn i e && chkUs N sc fn is j es
  | _, _, _ => false
mutual
def chkS (fr : Bool) (sc : Scope) (fn : Str → Bool) : Ev.S → Stmt → Bool
  | .asg tg e, s => match asAsg s with
    | some (t, v, _) => chkTg S.N sc fn tg t && chkE S sc fn (.v false) e v && (asgPl (asgWay sc t v) || (asgLc (asgWay sc t v) && isNew e && (asLc v).isSome && decide (tg.length = 1)))
    | none => false
  | .par is es, s => match asAsg s with
    | some (t, v, _) => (match asTup t, asTup v with
      | some ts, some vs => isFnS sc && swOk vs && decide (is.Nodup) && chkPar S.N sc is ts && chkA S sc fn es vs && decide (swNames sc ts vs = some (ts.filterMap asName)) && decide (is.length = 2 ∨ is.length = 3) && decide (vs.length = is.length) && noStars vs
      | _, _ => false)
    | none => false
  | .asgO i e, s => match asAsg s with
    | some (t, v, _) => chkTg1 S.N sc fn i t && chkN S sc fn e v && (asgPl (asgWay sc t v) || (asgLc (asgWay sc t v) && isNew e && (asLc v).isSome))
    | none => false
  | .asgC i e, s => match asAsg s with
    | some (t, v, _) => chkTg1 S.N sc fn i t && chkN S sc fn e v && asgPl (asgWay sc t v)
    | none => false
  | .setI a i e, s => match asAsg s with
    | some (t, v, _) => (match asSub t with
      | some (o, j) => (asSlice j).isNone && chkE S sc fn (.v false) e v && chkE S sc fn (.v false) a o && chkE S sc fn (.v false) i j && asgPl (asgWay sc t v)
      | none => false)
    | none => false
  | .app i e, s => match asExp s with
    | some (v, _) => (match asMeth v with
      | some (o, n, x) => decide (n = ("append" : Str)) && isNm S.N sc i o && (asStar x).isNone && chkE S sc fn (.v false) e x
      | none => false)
    | none => false
  | .ext i e, s => match asExp s with
    | some (v, _) => (match asMeth v with
      | some (o, n, x) => decide (n = ("extend" : Str)) && isNm S.N sc i o && (asStar x).isNone && chkE S sc fn (.v false) e x
      | none => false)
    | none => false
  | .if_ t a b, s => match asIfS s with
    | some (c, x, y) => chkT S sc fn t c && chkSs fr sc fn a x && chkSs fr sc fn b y
    | none => false
  | .for_ tg it b, s => match asForS s with
    | some (t, i, x) => chkTg S.N sc fn tg t && chkE S sc fn (.i false (asTup t).isSome) it i && !isSet i && chkSs fr sc fn b x
    | none => false
  | .while_ t b, s => match asWhl s with
    | some (c, x) => chkT S sc fn t c && chkSs fr sc fn b x
    | none => false
  | .ret e, s => match asRet s with
    | some v => if fr then chkN S sc fn e v else chkE S sc fn (.v false) e v
    | none => false
  | .expr e, s => match asExp s with
    | some (v, _) => chkE S sc fn (.v true) e v && (compScope v).isNone
    | none => false
  | .pass, s => decide (kindS s = 1)
  | .brk, s => decide (kindS s = 2)
  | .cnt, s => decide (kindS s = 3)
  | .frz _, _ => false
  | .ustar is j e, s => match asAsg s with
    | some (t, v, _) => (match asTup t with
      | some es => chkUs S.N sc fn is j es && chkE S sc fn (.v false) e v && asgPl (asgWay sc t v)
      | none => false)
    | none => false
def chkSs (fr : Bool) (sc : Scope) (fn : Str → Bool) : Ss → List Stmt → Bool
  | .nil, [] => true
  | .cons (.frz _) r, ss => chkSs fr sc fn r ss
  | .cons c r, s :: ss => chkS fr sc fn c s && chkSs fr sc fn r ss
  | _, _ => false
end
end
section
variable {p : Pr} {k : Nat} {S : Sx} {Φ : Nat → List PV → Cel → R PV} {sc : Scope} {fn : Str → Bool} {X : Cx} {W : Wx}
theorem soundNN (L : Lib p k S Φ) (G : Good p k S.N sc fn X) {c : C} {e : Expr} (h : chkN S sc fn c e = true) : PE X e (tvF X.K W (ev Φ c)) := by
  have other : isNew c = true → chkE S sc fn (.v false) c e = true → PE X e (tvF X.K W (ev Φ c)) := fun h1 h2 => soundN L G h2 (by cases c <;> first | rfl | cases h1)
  cases c with
  | call f es =>
    have h' : (match asCall e with
      | some (x, xs) => S.fr f && decide (x = S.nm f) && S.kn f && glB sc x && chkA S sc fn es xs && starOk xs
      | none => false) = true := h
    cases q : asCall e with
    | none => rw [q] at h'; cases h'
    | some u =>
      obtain ⟨x, xs⟩ := u
      rw [q] at h'
      simp only [Bool.and_eq_true, decide_eq_true_eq] at h'
      obtain ⟨⟨⟨⟨⟨h0, h1⟩, h2⟩, h3⟩, h4⟩, h5⟩ := h'
      exact (G.call L q h1 h2 h3 h5 (fun z => by subst z; cases es <;> first | rfl | exact Bool.noConfusion (show false = true from h4)) (soundA L es G h4)).2 h0
  | _ =>
    first
    | (unfold chkN at h
       rw [Bool.and_eq_true] at h
       exact other h.1 h.2)
theorem chkN_E {c : C} {e : Expr} (hn : isNew c = true) (h : chkN S sc fn c e = true) : chkE S sc fn (.v false) c e = true := by
  cases c <;> first
    | (cases hn; done)
    | (unfold chkN at h; rw [Bool.and_eq_true] at h; exact h.2)
theorem Good.pl (G : Good p k S.N sc fn X) {t v : Expr} {pos : Pos} (hw : asgPl (asgWay sc t v) = true) : swapsWithSole [t] v pos.line X.env = pure false ∧ swappedStores [t] v X.env = pure none := by
  unfold asgWay at hw
  split at hw
  · cases hw
  · rename_i h1
    simp only [Bool.or_eq_true, Bool.not_eq_true', not_or, Bool.not_eq_false, Option.isSome_eq_false_iff, Bool.not_eq_true] at h1
    have hf : isFnS X.env.scope = true := by rw [G.sc]; exact h1.1
    split at hw
    · cases hw
    · rename_i h2
      refine ⟨by rw [sw_eq hf, G.sc]; simp only [Bool.not_eq_true] at h2; rw [h2], ?_⟩
      have hl : asLst t = none := by simpa using h1.2
      split at hw
      · rename_i ts vs q1 q2
        obtain ⟨_, _, rfl⟩ := asTup_eq q1
        obtain ⟨_, _, rfl⟩ := asTup_eq q2
        split at hw
        · rename_i h3
          rw [Bool.and_eq_true, Option.isNone_iff_eq_none] at h3
          rw [sws_eq hf h3.1, G.sc, h3.2]
        · cases hw
      · rename_i q
        refine sws_none ?_ hl
        cases q1 : asTup t with
        | none => exact .inl rfl
        | some ts =>
          cases q2 : asTup v with
          | none => exact .inr rfl
          | some vs => exact absurd q2 (q ts vs q1)
theorem tgE_plain {tg : List Nat} {t : Expr} {env : Env} (h : chkTg S.N sc fn tg t = true) : asStar t = none := by
  unfold chkTg at h
  split at h
  · exact tg1_star h
  · cases q : asTup t with
    | none => rw [q] at h; cases h
    | some es => obtain ⟨_, _, rfl⟩ := asTup_eq q; rfl
theorem ae1 {t : Expr} {env : Env} (h : asStar t = none) : (assignEach [t] env).map (·.2) = [assign t env] := by
  rw [assignEach_plain h]; rfl
/-- name = [..] -/
theorem Good.lc (L : Lib p k S Φ) (G : Good p k S.N sc fn X) {i : Nat} {t v : Expr} {pos : Pos} {c : C} {m : Md} (hl : asgLc (asgWay sc t v) = true) (hn : isNew c = true) (hv : (asLc v).isSome = true) (ht : chkTg1 S.N sc fn i t = true) (hc : chkE S sc fn m c v = true) :
    ∃ T : TE, PS X (.Assign [t] v pos) (tAsg T (gName i)) ∧ ∀ σ H Q, tvF X.K W (ev Φ c) σ H Q → T σ H Q := by
  obtain ⟨⟨x, tg, it, fs, s⟩, q⟩ := Option.isSome_iff_exists.mp hv
  obtain ⟨pp, rfl⟩ := asLc_eq q
  unfold asgWay at hl
  split at hl
  · cases hl
  · rename_i h1
    simp only [Bool.or_eq_true, Bool.not_eq_true', not_or, Bool.not_eq_false, Bool.not_eq_true] at h1
    have hf : isFnS X.env.scope = true := by rw [G.sc]; exact h1.1
    split at hl
    · rename_i h2
      cases c with
      | comp elt tgs itc ifs own =>
        unfold chkTg1 at ht
        cases qn : asName t with
        | none => rw [qn] at ht; cases ht
        | some y =>
          rw [qn] at ht
          obtain ⟨yp, rfl⟩ := asName_eq qn
          simp only [Bool.and_eq_true, decide_eq_true_eq] at ht
          have hyl : sc.names.lookup y = some .local := by
            unfold swCond compScope at h2
            simp only [Bool.and_eq_true, beq_iff_eq] at h2
            exact h2.1.1.2
          have hsw : swapsWith (.ListComp x [⟨tg, it, fs, 0⟩] s pp) (some (.Name y yp)) pos.line X.env = pure true := by
            have := sw_eq (t := .Name y yp) (v := .ListComp x [⟨tg, it, fs, 0⟩] s pp) (l := pos.line) hf
            rw [G.sc, h2] at this
            exact this
          rw [chkE, q] at hc
          simp only [Bool.and_eq_true, Bool.not_eq_true'] at hc
          obtain ⟨⟨⟨⟨⟨⟨q1, q2⟩, q3⟩, q4⟩, q5⟩, q6⟩, q7⟩ := hc
          have base := ps_setLc (X := X) (i := i) (y := y) (py := yp) (spos := pos) (elt := x) (tg := tg) (iter := it) (ifs := fs) (scope := s) (pos := pp) (own := own.map fun i => (S.N.getD i "", i)) (wi := ti X.K true W (ev Φ itc)) (g := gAsg X.K tgs) (tt := tvbb X.K W0 (evt Φ ifs)) (te := tv X.K false W0 (ev Φ elt)) G.calm (by rw [G.hN]; exact G.nd)
            (by rw [G.hN]; exact ht.1) (by rw [G.sc]; exact hyl) hsw
            (soundE (m := .i true (asTup tg).isSome) L itc G q4 tg (fun z => by
              cases q2 : asTup tg with
              | none => rw [q2] at z; cases z
              | some es => obtain ⟨kk, p2, rfl⟩ := asTup_eq q2; exact ⟨es, kk, p2, rfl⟩))
            (by rw [G.hN, G.sc]; exact blkOk_by q1)
            (fun s' H' C cl fp => (G.blk s' H' s C cl fp).tg q5)
            (fun s' H' C cl fp => soundF L ifs (G.blk s' H' s C cl fp) q6)
            (fun s' H' C cl fp => soundE (m := .v false) L elt (G.blk s' H' s C cl fp) q7)
            (fsi_of q3)
          rw [sub_own] at base
          exact ⟨_, base, comp_w fun j hj => by simpa using List.all_eq_true.mp q2 j hj⟩
      | lst es => rw [chkE] at hc; cases hc
      | listOf a => rw [chkE] at hc; cases hc
      | _ => cases hn
    · split at hl
      · split at hl <;> cases hl
      · cases hl
theorem filterMap_asName : ∀ {is : List Nat} {es : List Expr} {N : List Str}, chkPar N sc is es = true → es.length = is.length
  | [], [], _, _ => rfl
  | i :: is, e :: es, N, h => by
    unfold chkPar at h
    rw [Bool.and_eq_true] at h
    simp [filterMap_asName h.2]
  | [], _ :: _, _, h => by cases h
  | _ :: _, [], _, h => by cases h
theorem chkPar_cons {i : Nat} {is : List Nat} {e : Expr} {es : List Expr} {N : List Str} (h : chkPar N sc (i :: is) (e :: es) = true) : (∃ x pp, e = .Name x pp ∧ N[i]? = some x ∧ sc.names.lookup x = some .local) ∧ chkPar N sc is es = true := by
  unfold chkPar at h
  rw [Bool.and_eq_true] at h
  refine ⟨?_, h.2⟩
  cases q : asName e with
  | none => rw [q] at h; cases h.1
  | some x =>
    rw [q] at h
    obtain ⟨pp, rfl⟩ := asName_eq q
    simp only [Bool.and_eq_true, decide_eq_true_eq] at h
    exact ⟨x, pp, rfl, h.1.1, h.1.2⟩
theorem Good.par (G : Good p k S.N sc fn X) {is : List Nat} {ts vs : List Expr} {kt kv : Nat} {pt pv pos : Pos} {f : En → Cel → R (List PV)} (hf : isFnS sc = true) (ho : swOk vs = true) (nd : is.Nodup) (hp : chkPar S.N sc is ts = true) (hsw : swNames sc ts vs = some (ts.filterMap asName)) (hl : is.length = 2 ∨ is.length = 3) (hv : vs.length = is.length) (ha : PA X vs (tvs X.K W f)) :
    PS X (.Assign [.Tuple ts kt pt] (.Tuple vs kv pv) pos) (fun D σ H => tvs X.K W f σ H fun ws H1 => ws.length = is.length ∧ D.nx (setS σ is ws) H1) := by
  have hf' : isFnS X.env.scope = true := by rw [G.sc]; exact hf
  have hw : swappedStores [.Tuple ts kt pt] (.Tuple vs kv pv) X.env = pure (some (ts.filterMap asName)) := by rw [sws_eq hf' ho, G.sc, hsw]
  have tl := filterMap_asName hp
  rcases hl with hl | hl
  · match is, ts, vs, hl, tl, hv with
    | [i, j], [a, b], [x, y], _, _, _ =>
      obtain ⟨⟨n1, p1, rfl, a1, b1⟩, hp2⟩ := chkPar_cons hp
      obtain ⟨⟨n2, p2, rfl, a2, b2⟩, _⟩ := chkPar_cons hp2
      refine wPS (ps_par G.calm (by rw [G.hN]; exact G.nd) (by rw [G.hN]; exact a1) (by rw [G.hN]; exact a2) (by simpa using nd) (by rw [G.sc]; exact b1) (by rw [G.sc]; exact b2) ha hw) fun D σ H h => ?_
      refine h.mono fun ws H1 ⟨hl, q⟩ => ?_
      match ws, hl, q with
      | [v, w], _, q => exact ⟨v, w, rfl, q⟩
  · match is, ts, vs, hl, tl, hv with
    | [i, j, l], [a, b, c], [x, y, z], _, _, _ =>
      obtain ⟨⟨n1, p1, rfl, a1, b1⟩, hp2⟩ := chkPar_cons hp
      obtain ⟨⟨n2, p2, rfl, a2, b2⟩, hp3⟩ := chkPar_cons hp2
      obtain ⟨⟨n3, p3, rfl, a3, b3⟩, _⟩ := chkPar_cons hp3
      simp only [List.nodup_cons, List.mem_cons, List.not_mem_nil, or_false, not_or] at nd
      refine wPS (ps_par3 G.calm (by rw [G.hN]; exact G.nd) (by rw [G.hN]; exact a1) (by rw [G.hN]; exact a2) (by rw [G.hN]; exact a3) nd.1.1 nd.1.2 nd.2.1 (by rw [G.sc]; exact b1) (by rw [G.sc]; exact b2) (by rw [G.sc]; exact b3) ha hw) fun D σ H h => ?_
      refine h.mono fun ws H1 ⟨hl, q⟩ => ?_
      match ws, hl, q with
      | [u, v, w], _, q => exact ⟨u, v, w, rfl, q⟩
/-- x.append(e), x.extend(e) -/
theorem few_of {x : Expr} {cp : Pos} {env : Env} (h : asStar x = none) : ((backTo cp (starEach [x] env)).all (fun x => !x.1) && (backToKw cp (keywordEach [] env)).all (fun x => x.1.isSome)
      && decide (([x] : List Expr).length + ([] : List Keyword).length + (if ([] : List Keyword).isEmpty then 0 else 1) < 30)) = true := by
  rw [starEach_plain h]; rfl
theorem sws_expr {v : Expr} {l : Nat} {env : Env} (h : (compScope v).isNone = true) : swapsWith v none l env = pure false := by
  cases v <;> first | rfl | (simp [compScope] at h)
theorem base_of {o : Expr} {n : Str} {env : Env} {i : Nat} {sc : Scope} {N : List Str} (h : isNm N sc i o = true) : attributeBase o n env (eval o env) = eval o env := by
  obtain ⟨x, q, rfl, _⟩ := isNm_of (S := ⟨fun _ => "", fun _ => false, fun _ => false, N⟩) h
  rfl
theorem Good.ust (G : Good p k S.N sc fn X) {j : Nat} : ∀ {is : List Nat} {es : List Expr}, chkUs S.N sc fn is j es = true → PGs X es (gNames (is ++ [j])) ∧ (assignEach es X.env).length = is.length + 1 ∧ (assignEach es X.env).findIdx? (·.1) = some is.length
  | [], [e], h => by
    unfold chkUs at h
    cases q : asStar e with
    | none => rw [q] at h; cases h
    | some x =>
      rw [q] at h
      obtain ⟨pp, rfl⟩ := asStar_eq q
      have h1 : PGs X [x] (gNames [j]) := pgs_cons (G.tg1 h) pgs_nil (by rw [assignEach_plain (tg1_star h)]; rfl)
      refine ⟨⟨fun pins s σ H vs us Q I r w => ?_⟩, rfl, rfl⟩
      have := h1.run pins s σ H vs us Q I r w
      rw [assignEach_plain (tg1_star h)] at this
      exact this
  | i :: is, e :: es, h => by
    unfold chkUs at h
    rw [Bool.and_eq_true] at h
    obtain ⟨h1, h2, h3⟩ := Good.ust G h.2
    have hs := assignEach_plain (es := es) (env := X.env) (tg1_star h.1)
    refine ⟨pgs_cons (G.tg1 h.1) h1 (by rw [hs]; rfl), by rw [hs]; simp [h2], ?_⟩
    rw [hs, List.findIdx?_cons, h3]
    rfl
  | [], [], h => by cases h
  | [], _ :: _ :: _, h => by cases h
  | _ :: _, [], h => by cases h
mutual
theorem soundS (L : Lib p k S Φ) (F : Nat) (fr : Bool) : ∀ (c : Ev.S) {sc : Scope} {fn : Str → Bool} {X : Cx} {s : Stmt} {W : Wx}, Good p k S.N sc fn X → chkS S fr sc fn c s = true → PS X s (ts X.K fr W (evS Φ F c))
  | .asg tg e, sc, fn, X, s, W, G, h => by
    rw [chkS] at h
    cases q : asAsg s with
    | none => rw [q] at h; cases h
    | some u =>
      obtain ⟨t, v, pos⟩ := u
      rw [q] at h
      obtain rfl := asAsg_eq q
      rw [Bool.and_eq_true, Bool.and_eq_true, Bool.or_eq_true] at h
      rcases h.2 with h2 | h2
      · obtain ⟨w1, w2⟩ := G.pl (pos := pos) h2
        exact ss_asg (T := tv X.K false W (ev Φ e)) (ps_asg (soundE (m := .v false) L e G h.1.2) (G.tg h.1.1) w1 w2 (ae1 (tgE_plain (env := X.env) h.1.1))) (fun _ _ _ z => z)
      · rw [Bool.and_eq_true, Bool.and_eq_true, Bool.and_eq_true, decide_eq_true_eq] at h2
        match tg, h, h2 with
        | [i], h, h2 =>
          obtain ⟨T, pT, wT⟩ := G.lc (W := W) (pos := pos) L h2.1.1.1 h2.1.1.2 h2.1.2 (show chkTg1 S.N sc fn i t = true from h.1.1) h.1.2
          exact ss_asg (tg := [i]) (T := T) pT (fun σ H Q z => wT σ H Q (v_of_F σ H Q z))
  | .par is es, sc, fn, X, s, W, G, h => by
    rw [chkS] at h
    cases q : asAsg s with
    | none => rw [q] at h; cases h
    | some u =>
      obtain ⟨t, v, pos⟩ := u
      rw [q] at h
      obtain rfl := asAsg_eq q
      dsimp only at h
      split at h
      · rename_i ts' vs q1 q2
        obtain ⟨kt, pt, rfl⟩ := asTup_eq q1
        obtain ⟨kv, pv, rfl⟩ := asTup_eq q2
        simp only [Bool.and_eq_true, decide_eq_true_eq] at h
        obtain ⟨⟨⟨⟨⟨⟨⟨⟨h1, h2⟩, h3⟩, h4⟩, h5⟩, h6⟩, h7⟩, h8⟩, h9⟩ := h
        exact ss_par (es := vs) (G.par h1 h2 h3 h4 h6 h7 h8 (soundA L es G h5))
      · cases h
  | .asgO i e, sc, fn, X, s, W, G, h => by
    rw [chkS] at h
    cases q : asAsg s with
    | none => rw [q] at h; cases h
    | some u =>
      obtain ⟨t, v, pos⟩ := u
      rw [q] at h
      obtain rfl := asAsg_eq q
      rw [Bool.and_eq_true, Bool.and_eq_true, Bool.or_eq_true] at h
      rcases h.2 with h2 | h2
      · obtain ⟨w1, w2⟩ := G.pl (pos := pos) h2
        exact ss_asgO (T := tvF X.K W (ev Φ e)) (ps_asg (soundNN L G h.1.2) (G.tg1 h.1.1) w1 w2 (ae1 (tg1_star h.1.1))) (fun _ _ _ z => z)
      · rw [Bool.and_eq_true, Bool.and_eq_true] at h2
        have hc : chkE S sc fn (.v false) e v = true := by
          exact chkN_E h2.1.2 h.1.2
        obtain ⟨T, pT, wT⟩ := G.lc (W := W) (pos := pos) L h2.1.1 h2.1.2 h2.2 h.1.1 hc
        exact ss_asgO (T := T) pT wT
  | .asgC i e, sc, fn, X, s, W, G, h => by
    rw [chkS] at h
    cases q : asAsg s with
    | none => rw [q] at h; cases h
    | some u =>
      obtain ⟨t, v, pos⟩ := u
      rw [q] at h
      obtain rfl := asAsg_eq q
      rw [Bool.and_eq_true, Bool.and_eq_true] at h
      obtain ⟨w1, w2⟩ := G.pl (pos := pos) h.2
      exact ss_asgC (T := tvF X.K W (ev Φ e)) (ps_asg (soundNN L G h.1.2) (G.tg1 h.1.1) w1 w2 (ae1 (tg1_star h.1.1))) (fun _ _ _ z => z)
  | .setI a i e, sc, fn, X, s, W, G, h => by
    rw [chkS] at h
    cases q : asAsg s with
    | none => rw [q] at h; cases h
    | some u =>
      obtain ⟨t, v, pos⟩ := u
      rw [q] at h
      obtain rfl := asAsg_eq q
      dsimp only at h
      cases q2 : asSub t with
      | none => rw [q2] at h; cases h
      | some u2 =>
        obtain ⟨o, j⟩ := u2
        rw [q2] at h
        obtain ⟨pt, rfl⟩ := asSub_eq q2
        simp only [Bool.and_eq_true, Option.isNone_iff_eq_none] at h
        obtain ⟨⟨⟨⟨h0, h1⟩, h2⟩, h3⟩, h4⟩ := h
        obtain ⟨w1, w2⟩ := G.pl (pos := pos) h4
        refine ss_setI (fun te to ti he ho hi => ps_asg he (pg_sub ho hi set_list ?_) w1 w2 rfl) (soundE (m := .v false) L e G h1) (soundE (m := .v false) L a G h2) (soundE (m := .v false) L i G h3)
        intro v
        cases j <;> first | rfl | (simp [asSlice] at h0)
  | .app i e, sc, fn, X, s, W, G, h => by
    rw [chkS] at h
    cases q : asExp s with
    | none => rw [q] at h; cases h
    | some u =>
      obtain ⟨v, pos⟩ := u
      rw [q] at h
      obtain rfl := asExp_eq q
      dsimp only at h
      cases q2 : asMeth v with
      | none => rw [q2] at h; cases h
      | some u2 =>
        obtain ⟨o, n, x⟩ := u2
        rw [q2] at h
        obtain ⟨ap, cp, rfl, hl⟩ := asMeth_eq q2
        simp only [Bool.and_eq_true, decide_eq_true_eq, Option.isNone_iff_eq_none] at h
        obtain ⟨⟨⟨rfl, h1⟩, h2⟩, h3⟩ := h
        exact ss_app (fun te to he ho => ps_expr (pe_bm PySem.F.plainAttrs_list PySem.F.slot_list_append PySem.F.type_list_append mt_append ho (pa_cons he pa_nil (starEach_plain h2)) (base_of h1) (few_of h2) hl (starEach_plain h2) rfl) rfl) (G.var h1) (soundE (m := .v false) L e G h3)
  | .ext i e, sc, fn, X, s, W, G, h => by
    rw [chkS] at h
    cases q : asExp s with
    | none => rw [q] at h; cases h
    | some u =>
      obtain ⟨v, pos⟩ := u
      rw [q] at h
      obtain rfl := asExp_eq q
      dsimp only at h
      cases q2 : asMeth v with
      | none => rw [q2] at h; cases h
      | some u2 =>
        obtain ⟨o, n, x⟩ := u2
        rw [q2] at h
        obtain ⟨ap, cp, rfl, hl⟩ := asMeth_eq q2
        simp only [Bool.and_eq_true, decide_eq_true_eq, Option.isNone_iff_eq_none] at h
        obtain ⟨⟨⟨rfl, h1⟩, h2⟩, h3⟩ := h
        exact ss_ext (fun te to he ho => ps_expr (pe_bm PySem.F.plainAttrs_list PySem.F.slot_list_extend PySem.F.type_list_extend mt_extend ho (pa_cons he pa_nil (starEach_plain h2)) (base_of h1) (few_of h2) hl (starEach_plain h2) rfl) rfl) (G.var h1) (soundE (m := .v false) L e G h3)
  | .if_ t a b, sc, fn, X, s, W, G, h => by
    rw [chkS] at h
    cases q : asIfS s with
    | none => rw [q] at h; cases h
    | some u =>
      obtain ⟨c, x, y⟩ := u
      rw [q] at h
      obtain ⟨pos, rfl⟩ := asIfS_eq q
      simp only [Bool.and_eq_true] at h
      exact ss_if (fun tt ta tb hc ha hb => ps_if hc ha hb) (soundT L t G h.1.1) (soundSs L F fr a G h.1.2) (soundSs L F fr b G h.2)
  | .for_ tg it b, sc, fn, X, s, W, G, h => by
    rw [chkS] at h
    cases q : asForS s with
    | none => rw [q] at h; cases h
    | some u =>
      obtain ⟨t, i, x⟩ := u
      rw [q] at h
      obtain ⟨pos, rfl⟩ := asForS_eq q
      simp only [Bool.and_eq_true, Bool.not_eq_true'] at h
      exact ss_for (f := evSs Φ F b) (fun wi gt tb hi hg hb => ps_for G.pass G.calm hi hg hb (fsi_of h.1.2)) (soundE (m := .i false (asTup t).isSome) L it G h.1.1.2 t (fun z => by
        cases q2 : asTup t with
        | none => rw [q2] at z; cases z
        | some es => obtain ⟨kk, p2, rfl⟩ := asTup_eq q2; exact ⟨es, kk, p2, rfl⟩)) (G.tg h.1.1.1) (soundSs L F fr b G h.2)
  | .while_ t b, sc, fn, X, s, W, G, h => by
    rw [chkS] at h
    cases q : asWhl s with
    | none => rw [q] at h; cases h
    | some u =>
      obtain ⟨c, x⟩ := u
      rw [q] at h
      obtain ⟨pos, rfl⟩ := asWhl_eq q
      simp only [Bool.and_eq_true] at h
      exact ss_while (fun tt tb hc hb => ps_while G.pass hc hb) (soundT L t G h.1) (soundSs L F fr b G h.2)
  | .ret e, sc, fn, X, s, W, G, h => by
    rw [chkS] at h
    cases q : asRet s with
    | none => rw [q] at h; cases h
    | some v =>
      rw [q] at h
      obtain ⟨pos, rfl⟩ := asRet_eq q
      cases fr with
      | true => exact ss_retF (fun t ht => ps_ret ht) (soundNN L G h)
      | false => exact ss_ret (fun t ht => ps_ret ht) (soundE (m := .v false) L e G h)
  | .expr e, sc, fn, X, s, W, G, h => by
    rw [chkS] at h
    cases q : asExp s with
    | none => rw [q] at h; cases h
    | some u =>
      obtain ⟨v, pos⟩ := u
      rw [q] at h
      obtain rfl := asExp_eq q
      simp only [Bool.and_eq_true] at h
      exact ss_expr (fun t ht => ps_expr ht (sws_expr h.2)) (soundE (m := .v true) L e G h.1)
  | .pass, sc, fn, X, s, W, G, h => by
    rw [chkS, decide_eq_true_eq] at h
    obtain ⟨pos, rfl⟩ := kindS_1 h
    exact ss_pass ps_pass
  | .brk, sc, fn, X, s, W, G, h => by
    rw [chkS, decide_eq_true_eq] at h
    obtain ⟨pos, rfl⟩ := kindS_2 h
    exact ss_brk ps_break
  | .cnt, sc, fn, X, s, W, G, h => by
    rw [chkS, decide_eq_true_eq] at h
    obtain ⟨pos, rfl⟩ := kindS_3 h
    exact ss_cnt ps_continue
  | .frz _, sc, fn, X, s, W, G, h => Bool.noConfusion (show false = true from h)
  | .ustar is j e, sc, fn, X, s, W, G, h => by
    rw [chkS] at h
    cases q : asAsg s with
    | none => rw [q] at h; cases h
    | some u =>
      obtain ⟨t, v, pos⟩ := u
      rw [q] at h
      obtain rfl := asAsg_eq q
      dsimp only at h
      cases q2 : asTup t with
      | none => rw [q2] at h; cases h
      | some es =>
        rw [q2] at h
        dsimp only at h
        rw [Bool.and_eq_true, Bool.and_eq_true] at h
        obtain ⟨w1, w2⟩ := G.pl (pos := pos) h.2
        obtain ⟨kk, pp, rfl⟩ := asTup_eq q2
        obtain ⟨u1, u2, u3⟩ := G.ust h.1.1
        exact ss_ustar (ps_asg (soundE (m := .v false) L e G h.1.2) (pg_star G.calm u1 u2 u3) w1 w2 (ae1 rfl))
theorem soundSs (L : Lib p k S Φ) (F : Nat) (fr : Bool) : ∀ (c : Ss) {sc : Scope} {fn : Str → Bool} {X : Cx} {ss : List Stmt} {W : Wx}, Good p k S.N sc fn X → chkSs S fr sc fn c ss = true → PSs X ss (ts X.K fr W (evSs Φ F c))
  | .nil, sc, fn, X, [], W, G, h => sss_nil
  | .nil, sc, fn, X, _ :: _, W, G, h => Bool.noConfusion (show false = true from h)
  | .cons c r, sc, fn, X, ss, W, G, h => by
    cases hc : c with
    | frz i =>
      subst hc
      rw [chkSs] at h
      exact sss_frz (soundSs L F fr r G h)
    | _ =>
      rw [← hc]
      cases ss with
      | nil => subst hc; exact Bool.noConfusion (show false = true from h)
      | cons s ss =>
        have h' : (chkS S fr sc fn c s && chkSs S fr sc fn r ss) = true := by subst hc; exact h
        rw [Bool.and_eq_true] at h'
        exact sss_cons (soundS L F fr c G h'.1) (soundSs L F fr r G h'.2)
end
end
end Ev
namespace Ev
open PySem L2
/-- a def that hands back a new list does only that -/
def retOnly : Ss → Bool
  | .cons (.ret _) .nil => true
  | _ => false
section
variable {p : Pr} {k : Nat} {S : Sx} {Φ : Nat → List PV → Cel → R PV} {K : PySem.W.Frag} {ω : Wd} {st : Cel} {H : Hp}
theorem init_get {n : Nat} {ts : List PV} {i : Nat} {s : Slot} (h : (initE n ts)[i]? = some s) : (∃ t, s = .val t ∧ ts[i]? = some t) ∨ s = .emp := by
  unfold initE at h
  by_cases hi : i < ts.length
  · rw [List.getElem?_append_left (by simpa using hi), List.getElem?_map] at h
    cases e : ts[i]? with
    | none => rw [e] at h; cases h
    | some t => rw [e] at h; cases h; exact .inl ⟨t, rfl, rfl⟩
  · rw [List.getElem?_append_right (by simpa using hi), List.getElem?_replicate] at h
    split at h
    · cases h; exact .inr rfl
    · cases h
theorem rel_start {N : List Str} {vs : List V} {ts : List PV} (r : RepL K ω H vs ts) (c : CelOk K ω st H) (hl : ts.length ≤ N.length) : Rel K ⟨ω.S, H, ω.cs⟩ ω (initE N.length ts) st (start N vs) H := by
  have e := r.length
  refine ⟨?_, fun i t h => ?_, fun i t h => ?_, fun i j t u a h _ _ _ => ?_, c, fun a o h _ => h, fun _ h => h, fun _ h => .inl h, ⟨[], by simp⟩, fun _ h => .inl h, fun a h => ?_⟩
  · unfold L2.start initE
    simp [e]
  · rcases init_get h with ⟨t', e1, e2⟩ | e1
    · cases e1
      obtain ⟨v, h1, h2⟩ := r.get e2
      refine ⟨v, ?_, h2⟩
      unfold L2.start
      have hi : i < vs.length := by
        rcases Nat.lt_or_ge i vs.length with z | z
        · exact z
        · rw [List.getElem?_eq_none z] at h1; cases h1
      rw [List.getElem?_append_left (by simpa using hi), List.getElem?_map, h1]
      rfl
    · cases e1
  · rcases init_get h with ⟨t', e1, e2⟩ | e1 <;> cases e1
  · rcases init_get h with ⟨t', e1, e2⟩ | e1 <;> cases e1
  · obtain ⟨vs, q⟩ := c.lstAt h
    exact ⟨_, q⟩
theorem Rel.out {ρ : En} {st' : Cel} {σ : L2.St} {ω' : Wd} {H' : Hp} (r : Rel K ⟨ω.S, H, ω.cs⟩ ω' ρ st' σ H') : ExtE ω H ω' H' := by
  refine ⟨r.sub, r.csp, fun a o h n => r.base a o h n, r.new, r.csn, fun a o h => ?_⟩
  by_cases hc : a ∈ ω.cs
  · obtain ⟨m, e⟩ := r.csp
    obtain ⟨vs, q⟩ := r.cells.lstAt (a := a) (by rw [e]; exact List.mem_append_left _ hc)
    exact ⟨_, q⟩
  · exact ⟨o, r.base a o h hc⟩
/-- the body keeps the promise of its run -/
theorem body_ok (L : Lib p k S Φ) (F : Nat) (fr : Bool) {sc : Scope} {body : Ss} {stmts : List Stmt} {X : Cx} {vs : List V} {ts : List PV} {Q : VK} (G : Good p k S.N sc (fun _ => true) X) (hc : chkSs S fr sc (fun _ => true) body stmts = true) (hr : fr = true → retOnly body = true)
    (r : RepL X.K ω H vs ts) (c : CelOk X.K ω st H) (hl : ts.length ≤ S.N.length)
    (h : match fin (evSs Φ F body (initE S.N.length ts) st) with
      | .ok t st' => ∀ v H' ω', ExtE ω H ω' H' → CelOk X.K ω' st' H' → (if fr then FreshP X.K H ω' H' v t else Rep X.K ω' H' v t) → Q v H'
      | _ => False) :
    PSs X stmts (Ev.ts X.K fr (fun _ _ _ _ _ _ _ => True) (evSs Φ F body)) ∧ Ev.ts X.K fr (fun _ _ _ _ _ _ _ => True) (evSs Φ F body) { nx := fun _ H' => Q .non H', rt := Q } (start S.N vs) H := by
  refine ⟨soundSs L F fr body G hc, ⟨⟨ω.S, H, ω.cs⟩, ω, _, st, rel_start r c hl, ?_⟩⟩
  cases e : evSs Φ F body (initE S.N.length ts) st with
  | nx ρ' st' =>
    rw [e] at h
    cases fr with
    | true =>
      exfalso
      have hb := hr rfl
      unfold retOnly at hb
      split at hb
      · rename_i e1
        rw [evSs, evS] at e
        cases q : ev Φ e1 (initE S.N.length ts) st with
        | ok x s => rw [q] at e; cases e
        | exc x s => rw [q] at e; cases e
        | bad => rw [q] at e; cases e
      · cases hb
    | false =>
      exact fun σ' H' ω' _ rel => h .non H' ω' rel.out rel.cells .non
  | rt v st' =>
    rw [e] at h
    intro x ρ' σ' H' ω' rel rp
    refine h x H' ω' rel.out rel.cells ?_
    unfold RetP at rp
    exact rp
  | bk ρ' st' => rw [e] at h; exact h.elim
  | ct ρ' st' => rw [e] at h; exact h.elim
  | exc x ρ' st' => rw [e] at h; exact h.elim
  | bad => rw [e] at h; exact h.elim
theorem spOf_mono {fr : Bool} {φ ψ : List PV → Cel → R PV} (h : ∀ ts st t st', φ ts st = .ok t st' → ψ ts st = .ok t st') : ∀ vs H Q E, spOf K fr φ vs H Q E → spOf K fr ψ vs H Q E := by
  rintro vs H Q E ⟨ω, st, ts, r, c, q⟩
  refine ⟨ω, st, ts, r, c, ?_⟩
  cases e : φ ts st with
  | ok t st' => rw [e] at q; rw [h _ _ _ _ e]; exact q
  | exc x s => rw [e] at q; exact q.elim
  | bad => rw [e] at q; exact q.elim
/-- the body at a call: the values as they are bound -/
theorem run_body (L : Lib p k S Φ) {F : Nat} {fr : Bool} {x qual : Str} {s : Stmt} {f : Addr} {oc kV doc pm cdv ct : Value} {an od : Option Addr} {osl : Array (Option Value)} {ps : List Str} {body : Ss} {A : Around} {outer : List Env} {sh : Shared} {args : Args} {Q : VK} {E : XK} {Gx : List V → Hp → Prop}
    (lk : p.K.lookup f = some ⟨oc, od, .func (PySem.W.fnOf x qual (defArgs s) (defBody s) (defScope s) .none kV doc pm an cdv ct), osl⟩) (hcd : PySem.W.codeIn p.K cdv qual = true) (Sc : FnScope S.N ps (defScope s)) (hr : Room (k + 1) A) (hg : A.guards = some [])
    (e0 : Env0 p.P p.w p.K p.mg p.base A outer sh H) (hb : StX.Bnd CX0 p.P p.w p.K p.mg p.base (PySem.W.fnOf x qual (defArgs s) (defBody s) (defScope s) .none kV doc pm an cdv ct) args ps A outer sh H E Gx)
    (hc : chkSs S fr (defScope s) (fun _ => true) body (defBody s) = true) (hrt : fr = true → retOnly body = true)
    (h : ∀ H2 vs, Gx vs H2 → ∃ ω st ts, RepL p.K ω H2 vs ts ∧ CelOk p.K ω st H2 ∧ ts.length ≤ S.N.length ∧ (match fin (evSs Φ F body (initE S.N.length ts) st) with
      | .ok t st' => ∀ v H' ω', ExtE ω H2 ω' H' → CelOk p.K ω' st' H' → (if fr then FreshP p.K H2 ω' H' v t else Rep p.K ω' H' v t) → Q v H'
      | _ => False)) :
    codeAny (model p.P p.w) A (.call (.ref f) args) (CR CX0 outer p.P p.w H sh Q E) sh := by
  refine StX.run_bnd (N := S.N) (ps := ps) lk hcd Sc hr e0 hb fun s2 H2 vs gx hroom => ?_
  obtain ⟨ω, st, ts, r, c, hl, q⟩ := h H2 vs gx
  have G : Good p k S.N (defScope s) (fun _ => true) (cxOf CX0 p.P p.w p.K p.mg p.base S.N qual (defScope s) f cdv A outer s2 H2 E).nox :=
    ⟨rfl, rfl, rfl, rfl, rfl, rfl, Sc.nd, rfl, rfl, rfl, hroom, PassesOwn.never, hg⟩
  obtain ⟨a, b⟩ := body_ok L F fr G hc hrt r c hl q
  exact ⟨_, a.nox, b⟩
/-- a def: its check, its mirror φ -/
theorem def_ok (L : Lib p k S Φ) (F : Nat) {fr : Bool} {x qual : Str} {s : Stmt} {f : Addr} {fd : FuncData} {ps : List Str} {d : Fn} {φ : List PV → Cel → R PV} (Fu : Fun p.K x qual s f fd) (Sc : FnScope S.N ps (defScope s))
    (hb : ∀ (kV doc pm : Value) (an : Option Addr) (cdv ct : Value) (us : List Value), us.length = ps.length → bindArgs (PySem.W.fnOf x qual (defArgs s) (defBody s) (defScope s) .none kV doc pm an cdv ct) ⟨us, []⟩ = pure (ps.zip us))
    (hc : chkSs S fr (defScope s) (fun _ => true) d.body (defBody s) = true) (hr : fr = true → retOnly d.body = true) (h1 : d.star = false) (h2 : d.ar = ps.length) (h3 : d.n = S.N.length) (h4 : ps.length ≤ S.N.length)
    (hφ : ∀ ts st t st', φ ts st = .ok t st' → run Φ F d ts st = .ok t st') : FnG p (k + 1) f (spOf p.K fr φ) := by
  intro A outer sh H us vs Q E hroom hg e0 rv h
  obtain ⟨oc, od, kV, doc, pm, an, cdv, ct, osl, rfl, lk, hcd⟩ := Fu.ex
  obtain ⟨ω, st, ts, r, c, q⟩ := spOf_mono hφ vs H Q E h
  have hl : ts.length = d.ar := by
    cases e : decide (ts.length = d.ar) with
    | true => exact of_decide_eq_true e
    | false =>
      exfalso
      unfold run at q
      rw [h1, if_neg Bool.false_ne_true, if_neg (of_decide_eq_false e)] at q
      exact q
  have hu : us.length = ps.length := by rw [← rv.length, r.length, hl, h2]
  refine run_body L (F := F) lk hcd Sc hroom hg e0 (ps := ps) (Gx := fun ws H2 => ws = vs ∧ H2 = H) ?_ hc hr fun H2 ws z => ?_
  · intro A' Ex Q' kk
    rw [hb kV doc pm an cdv ct us hu]
    exact wpAny_pure (kk sh H vs us e0 Un.refl rfl (fun _ _ z => z) rv (by rw [rv.length, hu]) ⟨rfl, rfl⟩)
  · obtain ⟨rfl, rfl⟩ := z
    refine ⟨ω, st, ts, r, c, by rw [hl, h2]; exact h4, ?_⟩
    have e : run Φ F d ts st = fin (evSs Φ F d.body (initE S.N.length ts) st) := by
      unfold run
      rw [h1, if_neg Bool.false_ne_true, if_pos hl, h3]
    rw [e] at q
    exact q
/-- a def with a star parameter -/
theorem def_star (L : Lib p k S Φ) (F : Nat) {x qual : Str} {s : Stmt} {f : Addr} {fd : FuncData} {ps : List Str} {pv : Str} {d : Fn} {φ : List PV → Cel → R PV} (Fu : Fun p.K x qual s f fd) (Sc : FnScope S.N (ps ++ [pv]) (defScope s))
    (hb : ∀ (kV doc pm : Value) (an : Option Addr) (cdv ct : Value) (us rest : List Value), us.length = ps.length → bindArgs (PySem.W.fnOf x qual (defArgs s) (defBody s) (defScope s) .none kV doc pm an cdv ct) ⟨us ++ rest, []⟩ = (newTuple rest >>= fun t => pure (ps.zip us ++ [(pv, t)])))
    (hc : chkSs S false (defScope s) (fun _ => true) d.body (defBody s) = true) (h1 : d.star = true) (h2 : d.ar = ps.length) (h3 : d.n = S.N.length) (h4 : ps.length + 1 ≤ S.N.length)
    (hφ : ∀ ts st t st', φ ts st = .ok t st' → run Φ F d ts st = .ok t st') : FnG p (k + 1) f (spOf p.K false φ) := by
  intro A outer sh H us vs Q E hroom hg e0 rv h
  obtain ⟨oc, od, kV, doc, pm, an, cdv, ct, osl, rfl, lk, hcd⟩ := Fu.ex
  obtain ⟨ω, st, ts, r, c, q⟩ := spOf_mono hφ vs H Q E h
  unfold run at q
  rw [h1, if_pos rfl] at q
  by_cases hz : (decide (d.ar ≤ ts.length) && szOk (ts.length - d.ar)) = true
  rotate_left
  · rw [if_neg hz] at q; exact q.elim
  rw [if_pos hz, h3] at q
  rw [Bool.and_eq_true, decide_eq_true_eq] at hz
  have hle := hz.1
  have hsz := szOk_le hz.2
  have vl := r.length
  have ul := rv.length
  refine run_body L (F := F) (fr := false) lk hcd Sc hroom hg e0 (ps := ps ++ [pv]) (Gx := fun ws H2 => ∃ a, H a = none ∧ ws = vs.take d.ar ++ [.ref a] ∧ H2 = upd H a (.tup (vs.drop d.ar))) ?_ hc (fun z => by cases z) fun H2 ws z => ?_
  · intro A' Ex Q' kk
    have e1 : (us.take d.ar).length = ps.length := by rw [List.length_take, ← h2]; omega
    have e2 : (us.drop d.ar).length ≤ sizeLine := by rw [List.length_drop]; omega
    have bs := hb kV doc pm an cdv ct (us.take d.ar) (us.drop d.ar) e1
    rw [List.take_append_drop] at bs
    rw [bs]
    have hn : H sh.heap.objs.size = none := e0.hok.fresh (Nat.le_refl _)
    have tt : ObjOk p.P p.w (upd H sh.heap.objs.size (.tup (vs.drop d.ar))) (sh.heap.push { cls := .type "tuple", data := .seq (us.drop d.ar).toArray }) sh.heap.objs.size (.tup (vs.drop d.ar)) :=
      ⟨by rw [List.length_drop]; omega, us.drop d.ar, rv.drop d.ar, ⟨_, Heap.get?_push_size _ rfl, rfl, _, rfl⟩⟩
    refine wpAny_bind (wpAny_newTuple (wpAny_pure ?_) e2)
    have fin := kk _ _ (vs.take d.ar ++ [.ref sh.heap.objs.size]) (us.take d.ar ++ [.ref sh.heap.objs.size]) (StX.env0_laid e0 tt) (StX.un_laid hn) rfl (fun _ _ z => z) ((rv.take d.ar).append (.cons (show RelV (.ref sh.heap.objs.size) (.ref sh.heap.objs.size) from rfl) .nil))
      (by rw [List.length_append, List.length_append, List.length_take, ← h2]; simp only [List.length_cons, List.length_nil]; omega) ⟨_, hn, rfl, rfl⟩
    rw [List.zip_append e1.symm] at fin
    exact fin
  · obtain ⟨a, ha, rfl, rfl⟩ := z
    refine ⟨ω, st, ts.take d.ar ++ [.tup (ts.drop d.ar)], ((r.take _).mono (Grow.upd ha).ext).append (.cons (.tup (.inl (.inl upd_same)) ((r.drop _).mono (Grow.upd ha).ext)) .nil), c.grow (Grow.upd ha), ?_, ?_⟩
    · rw [List.length_append, List.length_take]
      simp only [List.length_cons, List.length_nil]
      omega
    · revert q
      cases fin (evSs Φ F d.body (initE S.N.length (ts.take d.ar ++ [.tup (ts.drop d.ar)])) st) with
      | ok t st' => exact fun q v H' ω' x c' rp => q v H' ω' ((Grow.upd ha).toE.trans x) c' rp
      | exc x s => exact fun q => q
      | bad => exact fun q => q
end
end Ev
namespace Ev
open PySem PySem.Spec PyProof.Rows L2
/-! ### a law's end -/
/-- the abstract heap at the law's call: the script at most -/
def scriptH (a : Addr) (t : Option HO) : Hp := fun b => if b = a then t else none
theorem scriptH_at {a : Addr} {t : Option HO} : scriptH a t a = t := if_pos rfl
theorem scriptH_off {a b : Addr} {t : Option HO} (h : b ≠ a) : scriptH a t b = none := if_neg h
section
variable {P : Program} {w : World} {K : PySem.W.Frag} {mg mb : Str → Option Value} {k : Nat} {fa a : Addr} {s : Shared} {vs : List Value} {ns : List Int} {φ : List PV → Cel → R PV}
theorem repl_ints {ω : Wd} {H : Hp} : ∀ ns : List Int, RepL K ω H (ns.map V.int) (ns.map PV.int)
  | [] => .nil
  | n :: ns => .cons (.int n) (repl_ints ns)
theorem law_end (KX : K.In s.heap) (hns : s.heap.Ns mainGlobals mg) (hbn : s.heap.Ns builtinsNs mb) (hbb : ∀ x : Str, x ≠ "__name__" → mb x = bootBuiltins x) (hlim : s.heap.NoLimit) (hgen : s.gens = #[])
    (hobj : s.heap.get? a = some { cls := .type "list", data := .seq vs.toArray }) (hi : IntsAre vs ns) (hl : ns.length ≤ sizeLine) (hr : Room k callerA)
    (F : ∀ base : Heap, K.In base → base.Ns mainGlobals mg → FnG ⟨P, w, K, mg, base⟩ k fa (spOf K false φ)) (hφ : ∃ st', φ [.rol (ns.map .int)] [] = .ok (.bl true) st') :
    codeAny (model P w) callerA (.call (.ref fa) ⟨[.ref a], []⟩) (fun r s' => r = .ok (.ret (.bool true)) ∧ OldK s.heap s'.heap ∧ s'.os = s.os ∧ AllBare s'.gens) s := by
  obtain ⟨stF, hφ⟩ := hφ
  have rints := vals_ints hi
  have il := hi.length
  -- what is tracked
  obtain ⟨t, ht1, ht2, ht3⟩ : ∃ t : Option HO, (t = none ∨ ∃ ob us, t = some (.frz ob (.lst us))) ∧ (HOk P w (scriptH a t) s.heap ∧ RoL K ⟨fun _ => False, []⟩ (scriptH a t) a (ns.map V.int)) ∧ (t ≠ none → K.lookup a = none) := by
    cases hk : K.lookup a with
    | some o =>
      have e := (KX a o hk).symm.trans hobj
      cases e
      refine ⟨none, .inl rfl, ⟨fun b u z => ?_, .inr (.inr ⟨_, vs.toArray, _, hk, rfl, rfl, rfl, by rw [List.size_toArray, il]; exact hl, by simpa using rints⟩)⟩, fun z => absurd rfl z⟩
      unfold scriptH at z
      split at z <;> cases z
    | none =>
      refine ⟨some (.frz { cls := .type "list", data := .seq vs.toArray } (.lst (ns.map V.int))), .inr ⟨_, _, rfl⟩, ⟨fun b u z => ?_, .inr (.inl ⟨_, scriptH_at⟩)⟩, fun _ => rfl⟩
      unfold scriptH at z
      split at z
      · rename_i eb
        cases z
        rw [eb]
        exact ⟨hobj, by simpa using hl, vs, 0, rints, hobj⟩
      · cases z
  obtain ⟨hok, hro⟩ := ht2
  let H := scriptH a t
  have only : ∀ b u, H b = some u → b = a := fun b u z => by
    by_cases e : b = a
    · exact e
    · have : H b = none := scriptH_off e
      rw [this] at z; cases z
  have dicts : ∀ {b : Addr} {o : Obj} {es : Array DictEntry} {ep : Nat}, s.heap.get? b = some o → o.data = .dict es ep → H b = none := fun {b o es ep} e d => by
    cases q : H b with
    | none => rfl
    | some u =>
      have eb := only b u q
      rw [eb, hobj] at e
      cases e
      cases d
  have nss : ∀ {b : Addr} {m : Str → Option Value}, s.heap.Ns b m → (hidT s.heap H).Ns b m := fun z => by
    obtain ⟨o, es, ep, e, d, rest⟩ := z
    exact ⟨o, es, ep, hidT_get e (dicts e d), d, rest⟩
  have kin : K.In (hidT s.heap H) := fun b o e => hidT_get (KX b o e) (by
    cases q : H b with
    | none => rfl
    | some u =>
      have eb := only b u q
      subst eb
      rw [ht3 (by intro z; have : H b = t := scriptH_at; rw [z, q] at this; cases this)] at e
      cases e)
  obtain ⟨mc, lim1, lim2⟩ := hlim
  have md : Mod K mg (hidT s.heap H) := ⟨kin, nss hns, ⟨mb, nss hbn, hbb⟩, ⟨mc, nss lim1, lim2⟩⟩
  have e0 : Env0 P w K mg (hidT s.heap H) callerA [] s H := ⟨rfl, md, fun _ _ e => of_hidT e, Nat.le_of_eq (hidT_size _ _), trivial, fun b z => (by cases z), hok, .of_eq hgen⟩
  have prom : spOf K false φ [.ref a] H (fun v _ => v = .bl true) E0 := by
    refine ⟨⟨fun _ => False, []⟩, [], [.rol (ns.map .int)], .cons (.rol hro (repl_ints ns)) .nil, ⟨rfl, List.nodup_nil, fun b z => (by cases z), fun b z => z.elim, fun k b z => (by simp at z)⟩, ?_⟩
    rw [hφ]
    intro v H' ω' _ _ rp
    simp only [Bool.false_eq_true, if_false] at rp
    cases rp
    rfl
  refine codeAny_mono (F _ kin (nss hns) callerA [] s H [.ref a] [.ref a] _ _ hr rfl e0 (.cons rfl .nil) prom) fun r s' z => ?_
  match r, z with
  | .error _, z => exact z.elim
  | .ok .next, z => exact z.elim
  | .ok .brk, z => exact z.elim
  | .ok .cont, z => exact z.elim
  | .ok (.ret u), z =>
    obtain ⟨v, H', os, bare, un, hok', rv, ev⟩ := z
    cases (show v = .bl true from ev)
    cases (show u = Value.bool true from rv)
    refine ⟨rfl, OldK.of_keep fun b o e => ?_, os, bare⟩
    cases q : H b with
    | none => exact un.keep b o e q (fun m => by cases m) (fun m => by cases m)
    | some x =>
      have eb := only b x q
      rcases ht1 with rfl | ⟨ob, us, rfl⟩
      · have : H b = none := by rw [eb]; exact scriptH_at
        rw [q] at this; cases this
      · have hb : H b = some (.frz ob (.lst us)) := by rw [eb]; exact scriptH_at
        have e1 := (hok b _ hb).1
        have e2 := (hok' b _ (un.frzs b ob _ hb)).1
        rw [e] at e1
        cases e1
        exact e2
end
theorem walkG {l : PySem.W.OpenLaw} {n k : Nat} {q : Program} {loose : List Str} {XP : (Str → Option Value) → Heap → Prop} {YP : World → Heap → Prop} {d : DefRec} {K : Params → PySem.W.Frag} {φ : List PV → Cel → R PV}
    (hn : l.most = some n) (hn2 : n ≤ sizeLine) (hdf : d.params.defaults = []) (hr : Room k callerA) (hY : ∀ (w : World) (h : Heap), YP w h → (K w.params).In h)
    (F : ∀ (w : World) (mg : Str → Option Value) (fa : Addr) (h : Heap), (K w.params).In h → h.Ns mainGlobals mg → mg d.name = some (.ref fa) → ∀ base : Heap, (K w.params).In base → base.Ns mainGlobals mg → FnG ⟨l.prog, w, K w.params, mg, base⟩ k fa (spOf (K w.params) false φ))
    (hφ : ∀ ns : List Int, ns.length ≤ n → ∃ st', φ [.rol (ns.map .int)] [] = .ok (.bl true) st') : PySem.W.WalkO q loose XP YP l.row.toRowW d [] (fun f vs => PySem.call f vs) := by
  refine Att.attach_call hn hdf fun w s₀ s₁ mg mb fa o pm cd doc a vs ns G Y ho hd hcd hmg hobj hints hlen hg => ?_
  exact law_end (hY w _ Y) G.T.g G.T.b G.T.builtins G.T.nolimit hg hobj hints (Nat.le_trans hlen hn2) hr (F w mg fa _ (hY w _ Y) G.T.g hmg) (hφ ns hlen)
end Ev
namespace Ev
open PySem L2
/-! ### a whole program: its defs, run with a call depth -/
structure DefD where
  nm : Str
  ps : List Str
  pv : Option Str := none
  N : List Str
  fr : Bool := false
  st : Stmt
  body : Ss
def DefD.fn (D : DefD) : Fn := ⟨D.ps.length, D.pv.isSome, D.N.length, D.body⟩
def DefD.all (D : DefD) : List Str := D.ps ++ D.pv.toList
def sxOf (ds : List DefD) (N : List Str) : Sx := ⟨fun i => ((ds[i]?).map (·.nm)).getD "", fun i => ((ds[i]?).map (·.fr)).getD false, fun i => (ds[i]?).isSome, N⟩
def Phi (ds : List DefD) (F : Nat) : Nat → Nat → List PV → Cel → R PV
  | 0 => fun _ _ _ => .bad
  | n + 1 => fun i args st => match ds[i]? with
    | some D => run (Phi ds F n) F D.fn args st
    | none => .bad
def okD (ds : List DefD) (D : DefD) : Bool :=
  chkSs (sxOf ds D.N) D.fr (defScope D.st) (fun _ => true) D.body (defBody D.st) && (!D.fr || (retOnly D.body && D.pv.isNone)) && decide (D.all.length ≤ D.N.length) &&
  decide ((defScope D.st).kind = .function) && !(defScope D.st).isCoroutine && !(defScope D.st).isGenerator && decide (D.N.Nodup) && decide (D.N.take D.all.length = D.all) &&
  D.all.all (fun x => decide ((defScope D.st).names.lookup x = some .local) || decide ((defScope D.st).names.lookup x = some .cell)) && (defScope D.st).names.all (fun y => decide (y.2 ≠ .free))
def BindOk (D : DefD) : Prop := match D.pv with
  | none => ∀ (kV doc pm : Value) (an : Option Addr) (cdv ct : Value) (us : List Value), us.length = D.ps.length → bindArgs (PySem.W.fnOf D.nm D.nm (defArgs D.st) (defBody D.st) (defScope D.st) .none kV doc pm an cdv ct) ⟨us, []⟩ = pure (D.ps.zip us)
  | some pv => ∀ (kV doc pm : Value) (an : Option Addr) (cdv ct : Value) (us rest : List Value), us.length = D.ps.length → bindArgs (PySem.W.fnOf D.nm D.nm (defArgs D.st) (defBody D.st) (defScope D.st) .none kV doc pm an cdv ct) ⟨us ++ rest, []⟩ = (newTuple rest >>= fun t => pure (D.ps.zip us ++ [(pv, t)]))
/-- what the top has written of a def -/
def Told (K : PySem.W.Frag) (mg : Str → Option Value) (D : DefD) : Prop := ∃ f fd, mg D.nm = some (.ref f) ∧ PySem.W.keepIn K (.ref f) = true ∧ Fun K D.nm D.nm D.st f fd
def AllP (P : DefD → Prop) : List DefD → Prop
  | [] => True
  | D :: r => P D ∧ AllP P r
theorem AllP.get {P : DefD → Prop} : ∀ {ds : List DefD}, AllP P ds → ∀ {i : Nat} {D : DefD}, ds[i]? = some D → P D
  | [], _, _, _, e => by cases e
  | D :: r, h, 0, _, e => by simp at e; subst e; exact h.1
  | D :: r, h, i + 1, _, e => AllP.get h.2 (i := i) (by simpa using e)
theorem scope_of {ds : List DefD} {D : DefD} (h : okD ds D = true) : FnScope D.N D.all (defScope D.st) := by
  unfold okD at h
  simp only [Bool.and_eq_true, decide_eq_true_eq, Bool.not_eq_true', List.all_eq_true, Bool.or_eq_true] at h
  obtain ⟨⟨⟨⟨⟨⟨⟨⟨⟨h0, h1⟩, h2⟩, h3⟩, h4⟩, h5⟩, h6⟩, h7⟩, h8⟩, h9⟩ := h
  exact ⟨h3, h4, h5, h6, h7, h8, h9⟩
theorem told_fn {p : Pr} {k F : Nat} {ds : List DefD} {Φ : Nat → List PV → Cel → R PV} {D : DefD} {f : Addr} {fd : FuncData} (L : ∀ N, Lib p k (sxOf ds N) Φ) (Fu : Fun p.K D.nm D.nm D.st f fd) (h : okD ds D = true) (hb : BindOk D) : FnG p (k + 1) f (spOf p.K D.fr (run Φ F D.fn)) := by
  have Sc := scope_of h
  unfold okD at h
  simp only [Bool.and_eq_true, decide_eq_true_eq, Bool.or_eq_true, Bool.not_eq_true'] at h
  obtain ⟨⟨⟨⟨⟨⟨⟨⟨⟨h0, h1⟩, h2⟩, h3⟩, h4⟩, h5⟩, h6⟩, h7⟩, h8⟩, h9⟩ := h
  unfold BindOk at hb
  cases e : D.pv with
  | none =>
    rw [e] at hb
    have ea : D.all = D.ps := by unfold DefD.all; rw [e]; simp
    rw [ea] at Sc h2
    refine def_ok (L D.N) F Fu Sc hb h0 (fun z => ?_) (by unfold DefD.fn; rw [e]; rfl) rfl rfl h2 (fun _ _ _ _ z => z)
    rcases h1 with h1 | h1
    · rw [z] at h1; cases h1
    · exact h1.1
  | some pv =>
    rw [e] at hb
    have ea : D.all = D.ps ++ [pv] := by unfold DefD.all; rw [e]; rfl
    rw [ea] at Sc h2
    have ef : D.fr = false := by
      rcases h1 with h1 | h1
      · exact h1
      · rw [e] at h1; cases h1.2
    rw [ef] at h0 ⊢
    exact def_star (L D.N) F Fu Sc hb h0 (by unfold DefD.fn; rw [e]; rfl) rfl rfl (by show D.ps.length + 1 ≤ D.N.length; simpa using h2) (fun _ _ _ _ z => z)
theorem lib_all {p : Pr} {ds : List DefD} (F : Nat) (hT : AllP (Told p.K p.mg) ds) (hB : AllP BindOk ds) (hC : AllP (fun D => okD ds D = true) ds) (bi : ∀ x ∈ biNames, p.mg x = none) : ∀ n N, Lib p n (sxOf ds N) (Phi ds F n)
  | 0, N => by
    refine ⟨fun i hi => ?_, bi⟩
    obtain ⟨D, hD⟩ := Option.isSome_iff_exists.mp hi
    obtain ⟨f, fd, m, kp, Fu⟩ := hT.get hD
    refine ⟨f, by show p.mg (((ds[i]?).map (·.nm)).getD "") = _; rw [hD]; exact m, kp, ?_⟩
    rintro A outer s H us vs Q E _ _ _ _ ⟨ω, st, ts, _, _, z⟩
    exact z.elim
  | n + 1, N => by
    refine ⟨fun i hi => ?_, bi⟩
    obtain ⟨D, hD⟩ := Option.isSome_iff_exists.mp hi
    obtain ⟨f, fd, m, kp, Fu⟩ := hT.get hD
    refine ⟨f, by show p.mg (((ds[i]?).map (·.nm)).getD "") = _; rw [hD]; exact m, kp, ?_⟩
    have e1 : (sxOf ds N).fr i = D.fr := by show ((ds[i]?).map (·.fr)).getD false = _; rw [hD]; rfl
    have e2 : Phi ds F (n + 1) i = run (Phi ds F n) F D.fn := by
      funext args st
      show (match ds[i]? with
        | some D => run (Phi ds F n) F D.fn args st
        | none => .bad) = _
      rw [hD]
    rw [e1, e2]
    exact told_fn (fun N => lib_all F hT hB hC bi n N) Fu (hC.get hD) (hB.get hD)
/-- the law's def, told among the defs -/
theorem law_fn {p : Pr} {ds : List DefD} {F n i : Nat} {D : DefD} {fa : Addr} (hT : AllP (Told p.K p.mg) ds) (hB : AllP BindOk ds) (hC : AllP (fun D => okD ds D = true) ds) (bi : ∀ x ∈ biNames, p.mg x = none) (hD : ds[i]? = some D) (hf : D.fr = false) (hm : p.mg D.nm = some (.ref fa)) :
    FnG p n fa (spOf p.K false (Phi ds F n i)) := by
  obtain ⟨f, m, _, G⟩ := (lib_all F hT hB hC bi n []).fn i (by show (ds[i]?).isSome = true; rw [hD]; rfl)
  have e0 : (sxOf ds []).nm i = D.nm := by show ((ds[i]?).map (·.nm)).getD ("" : Str) = _; rw [hD]; rfl
  have e1 : (sxOf ds []).fr i = D.fr := by show ((ds[i]?).map (·.fr)).getD false = _; rw [hD]; rfl
  rw [e0, hm] at m
  cases m
  rw [e1, hf] at G
  exact G
theorem law_is {P : Program} {w : World} {K : PySem.W.Frag} {mg : Str → Option Value} {base : Heap} {ds : List DefD} {F n i : Nat} {D : DefD} {fa : Addr} (hT : AllP (Told K mg) ds) (hB : AllP BindOk ds) (hC : AllP (fun D => okD ds D = true) ds) (bi : ∀ x ∈ biNames, mg x = none) (hD : ds[i]? = some D) (hf : D.fr = false) (hm : mg D.nm = some (.ref fa)) :
    FnG ⟨P, w, K, mg, base⟩ n fa (spOf K false (Phi ds F n i)) := law_fn (p := ⟨P, w, K, mg, base⟩) hT hB hC bi hD hf hm
theorem bi_of {K : PySem.W.Frag} {h : Heap} {mg : Str → Option Value} (X : K.In h) (G : h.Ns mainGlobals mg)
    (z0 : PySem.W.nsIn K mainGlobals "len" = some none) (z1 : PySem.W.nsIn K mainGlobals "int" = some none) (z2 : PySem.W.nsIn K mainGlobals "tuple" = some none) (z3 : PySem.W.nsIn K mainGlobals "list" = some none) (z4 : PySem.W.nsIn K mainGlobals "isinstance" = some none) (z5 : PySem.W.nsIn K mainGlobals "all" = some none) (z6 : PySem.W.nsIn K mainGlobals "range" = some none) (z7 : PySem.W.nsIn K mainGlobals "zip" = some none) (z8 : PySem.W.nsIn K mainGlobals "bool" = some none) (z9 : PySem.W.nsIn K mainGlobals "str" = some none) (z10 : PySem.W.nsIn K mainGlobals "sorted" = some none) (z11 : PySem.W.nsIn K mainGlobals "set" = some none) (z12 : PySem.W.nsIn K mainGlobals "dict" = some none) (z13 : PySem.W.nsIn K mainGlobals "repr" = some none) (z14 : PySem.W.nsIn K mainGlobals "enumerate" = some none) (z15 : PySem.W.nsIn K mainGlobals "any" = some none) (z16 : PySem.W.nsIn K mainGlobals "max" = some none) (z17 : PySem.W.nsIn K mainGlobals "min" = some none) (z18 : PySem.W.nsIn K mainGlobals "sum" = some none) : ∀ x ∈ biNames, mg x = none := by
  intro x hx
  unfold biNames at hx
  simp only [List.mem_cons, List.not_mem_nil, or_false] at hx
  rcases hx with rfl | rfl | rfl | rfl | rfl | rfl | rfl | rfl | rfl | rfl | rfl | rfl | rfl | rfl | rfl | rfl | rfl | rfl | rfl
  all_goals exact PySem.W.mg_none_of X G ‹_›
end Ev
namespace Ev
open PySem L2
/-! ### what a run ends in -/
def R.wp {α : Type} (r : R α) (Q : α → Cel → Prop) : Prop := match r with
  | .ok a st => Q a st
  | _ => False
theorem R.wp_congr {α : Type} {r r' : R α} {Q : α → Cel → Prop} (h : r = r') : r.wp Q = r'.wp Q := by rw [h]
theorem R.wp_ok {α : Type} (a : α) (st : Cel) (Q : α → Cel → Prop) : (R.ok a st).wp Q = Q a st := rfl
theorem R.wp_exc {α : Type} (e : EX) (st : Cel) (Q : α → Cel → Prop) : (R.exc e st : R α).wp Q = False := rfl
theorem R.wp_bad {α : Type} (Q : α → Cel → Prop) : (R.bad : R α).wp Q = False := rfl
theorem R.wp_bind {α β : Type} (r : R α) (f : α → Cel → R β) (Q : β → Cel → Prop) : (r.bind f).wp Q = r.wp fun a st => (f a st).wp Q := by cases r <;> rfl
theorem R.wp_noexc {α : Type} (r : R α) (Q : α → Cel → Prop) : r.noexc.wp Q = r.wp Q := by cases r <;> rfl
theorem R.wp_ite {α : Type} (c : Prop) [Decidable c] (a b : R α) (Q : α → Cel → Prop) : (if c then a else b).wp Q = ((c → a.wp Q) ∧ (¬ c → b.wp Q)) := by
  by_cases h : c <;> simp [h]
theorem R.wp_mono {α : Type} {r : R α} {Q Q' : α → Cel → Prop} (h : r.wp Q) (i : ∀ a st, Q a st → Q' a st) : r.wp Q' := by
  cases r with
  | ok a st => exact i a st h
  | exc e st => exact h
  | bad => exact h
theorem R.wp_eq {α : Type} {r : R α} {Q : α → Cel → Prop} (h : r.wp Q) : ∃ a st, r = .ok a st ∧ Q a st := by
  cases r with
  | ok a st => exact ⟨a, st, rfl, h⟩
  | exc e st => exact h.elim
  | bad => exact h.elim
def RS.wp (r : RS) (N : En → Cel → Prop) (T : PV → Cel → Prop) (B C : En → Cel → Prop) : Prop := match r with
  | .nx ρ st => N ρ st
  | .rt v st => T v st
  | .bk ρ st => B ρ st
  | .ct ρ st => C ρ st
  | _ => False
section
variable (N : En → Cel → Prop) (T : PV → Cel → Prop) (B C : En → Cel → Prop)
theorem RS.wp_congr {r r' : RS} {N : En → Cel → Prop} {T : PV → Cel → Prop} {B C : En → Cel → Prop} (h : r = r') : r.wp N T B C = r'.wp N T B C := by rw [h]
theorem RS.wp_nx (ρ : En) (st : Cel) : (RS.nx ρ st).wp N T B C = N ρ st := rfl
theorem RS.wp_rt (v : PV) (st : Cel) : (RS.rt v st).wp N T B C = T v st := rfl
theorem RS.wp_bk (ρ : En) (st : Cel) : (RS.bk ρ st).wp N T B C = B ρ st := rfl
theorem RS.wp_ct (ρ : En) (st : Cel) : (RS.ct ρ st).wp N T B C = C ρ st := rfl
theorem RS.wp_exc (e : EX) (ρ : En) (st : Cel) : (RS.exc e ρ st).wp N T B C = False := rfl
theorem RS.wp_bad : RS.bad.wp N T B C = False := rfl
theorem RS.wp_seq (r : RS) (f : En → Cel → RS) : (r.seq f).wp N T B C = r.wp (fun ρ st => (f ρ st).wp N T B C) T B C := by cases r <;> rfl
theorem RS.wp_then {α : Type} (r : R α) (ρ : En) (f : α → Cel → RS) : (r.then ρ f).wp N T B C = r.wp fun a st => (f a st).wp N T B C := by cases r <;> rfl
theorem RS.wp_ite (c : Prop) [Decidable c] (a b : RS) : (if c then a else b).wp N T B C = ((c → a.wp N T B C) ∧ (¬ c → b.wp N T B C)) := by
  by_cases h : c <;> simp [h]
theorem RS.wp_nextL (r : RS) (k : En → Cel → RS) : (nextL r k).wp N T B C = r.wp (fun ρ st => (k ρ st).wp N T B C) T N (fun ρ st => (k ρ st).wp N T B C) := by cases r <;> rfl
theorem wp_fin (r : RS) (Q : PV → Cel → Prop) : (fin r).wp Q = r.wp (fun _ st => Q .non st) Q (fun _ _ => False) (fun _ _ => False) := by cases r <;> rfl
end
theorem RS.wp_mono {r : RS} {N N' : En → Cel → Prop} {T T' : PV → Cel → Prop} {B B' C C' : En → Cel → Prop} (h : r.wp N T B C) (hN : ∀ ρ st, N ρ st → N' ρ st) (hT : ∀ v st, T v st → T' v st) (hB : ∀ ρ st, B ρ st → B' ρ st) (hC : ∀ ρ st, C ρ st → C' ρ st) : r.wp N' T' B' C' := by
  cases r with
  | nx ρ st => exact hN _ _ h
  | rt v st => exact hT _ _ h
  | bk ρ st => exact hB _ _ h
  | ct ρ st => exact hC _ _ h
  | exc e ρ st => exact h
  | bad => exact h
/-- a walk by what holds of the rest -/
theorem forL_wp {f : PV → En → Cel → RS} {xs : List PV} {ρ : En} {st : Cel} {N : En → Cel → Prop} {T : PV → Cel → Prop} {B C : En → Cel → Prop} (I : List PV → En → Cel → Prop) (h0 : I xs ρ st)
    (hs : ∀ x r ρ st, I (x :: r) ρ st → (f x ρ st).wp (I r) T N (I r)) (hN : ∀ ρ st, I [] ρ st → N ρ st) : (forL f xs ρ st).wp N T B C := by
  induction xs generalizing ρ st with
  | nil => exact hN _ _ h0
  | cons x xs ih =>
    rw [forL, RS.wp_nextL]
    exact RS.wp_mono (hs _ _ _ _ h0) (fun _ _ h => ih h) (fun _ _ h => h) (fun _ _ h => h) (fun _ _ h => ih h)
theorem compL_wp {f : PV → Cel → R (Option PV)} {xs : List PV} {st : Cel} {Q : List PV → Cel → Prop} (I : List PV → List PV → Cel → Prop) (h0 : I xs [] st)
    (hs : ∀ x r acc st, I (x :: r) acc st → (f x st).wp fun o st' => I r (acc ++ o.toList) st') (hQ : ∀ ys st, I [] ys st → Q ys st) : (compL f xs st).wp Q := by
  have key : ∀ (xs acc : List PV) (st : Cel), I xs acc st → (compL f xs st).wp fun ys st' => Q (acc ++ ys) st' := by
    intro xs
    induction xs with
    | nil => intro acc st h; rw [compL, R.wp_ok, List.append_nil]; exact hQ _ _ h
    | cons x xs ih =>
      intro acc st h
      obtain ⟨o, st', e, h'⟩ := R.wp_eq (hs _ _ _ _ h)
      rw [compL, e]
      show ((compL f xs st').bind _).wp _
      rw [R.wp_bind]
      refine R.wp_mono (ih _ _ h') fun ys st2 q => ?_
      rw [R.wp_ok]
      cases o with
      | none => simpa using q
      | some y => simpa using q
  simpa using key xs [] st h0
theorem compL_pure {f : PV → Cel → R (Option PV)} {st : Cel} (g : PV → Option PV) : ∀ {xs : List PV}, (∀ x ∈ xs, f x st = .ok (g x) st) → compL f xs st = .ok (xs.filterMap g) st
  | [], _ => rfl
  | x :: xs, h => by
    rw [compL, h x (List.mem_cons_self ..)]
    show (compL f xs st).bind _ = _
    rw [compL_pure g fun y hy => h y (List.mem_cons_of_mem _ hy), R.bind_ok, List.filterMap_cons]
    cases g x <;> rfl
theorem compL_map {f : PV → Cel → R (Option PV)} {st : Cel} (g : PV → PV) {xs : List PV} (h : ∀ x ∈ xs, f x st = .ok (some (g x)) st) : compL f xs st = .ok (xs.map g) st := by
  rw [compL_pure (fun x => some (g x)) h]; congr 1; exact congrFun (List.filterMap_eq_map (f := g)) xs
/-! ### the equations of the evaluator, for simp -/
def getV (o : Option Slot) (st : Cel) : R PV := match o with
  | some (.val v) => .ok v st
  | _ => .bad
@[simp] theorem getV_val (v : PV) (st : Cel) : getV (some (.val v)) st = .ok v st := rfl
def getB (o : Option Slot) (st : Cel) : R PV := match o with
  | some (.own v) => .ok v st
  | some (.val v) => .ok v st
  | _ => .bad
@[simp] theorem getB_val (v : PV) (st : Cel) : getB (some (.val v)) st = .ok v st := rfl
@[simp] theorem getB_own (v : PV) (st : Cel) : getB (some (.own v)) st = .ok v st := rfl
def ifR {α : Type} (x : PV) (a b : R α) : R α := match x with
  | .bl true => a
  | .bl false => b
  | _ => .bad
@[simp] theorem ifR_bl {α : Type} (c : Bool) (a b : R α) : ifR (.bl c) a b = if c then a else b := by cases c <;> rfl
@[simp] theorem ifR_int {α : Type} (c : Int) (a b : R α) : ifR (.int c) a b = .bad := rfl
section
variable (Φ : Nat → List PV → Cel → R PV) (F : Nat) (ρ : En) (st : Cel)
theorem ev_var (i : Nat) : ev Φ (.var i) ρ st = getV ρ[i]? st := rfl
theorem ev_bor (i : Nat) : ev Φ (.bor i) ρ st = getB ρ[i]? st := rfl
theorem ev_int (i : Int) : ev Φ (.int i) ρ st = .ok (.int i) st := rfl
theorem ev_str (i : Str) : ev Φ (.str i) ρ st = .ok (.str i) st := rfl
theorem ev_bl (i : Bool) : ev Φ (.bl i) ρ st = .ok (.bl i) st := rfl
theorem ev_non : ev Φ .non ρ st = .ok .non st := rfl
theorem ev_bin (op : BOp) (a b : C) : ev Φ (.bin op a b) ρ st = (ev Φ a ρ st).bind fun x st => (ev Φ b ρ st).bind fun y st => R.of (binV op x y) st := rfl
theorem ev_neg (a : C) : ev Φ (.neg a) ρ st = (ev Φ a ρ st).bind fun x st => R.of (negV x) st := rfl
theorem ev_not (a : C) : ev Φ (.not a) ρ st = (ev Φ a ρ st).bind fun x st => R.of (notV x) st := rfl
theorem ev_cmp (op : COp) (a b : C) : ev Φ (.cmp op a b) ρ st = (ev Φ a ρ st).bind fun x st => (ev Φ b ρ st).bind fun y st => R.of ((cmpV op x y).map .bl) st := rfl
theorem ev_and (a b : C) : ev Φ (.and a b) ρ st = (ev Φ a ρ st).bind fun x st => ifR x (ev Φ b ρ st) (.ok (.bl false) st) := by
  rw [ev]; congr
theorem ev_or (a b : C) : ev Φ (.or a b) ρ st = (ev Φ a ρ st).bind fun x st => ifR x (.ok (.bl true) st) (ev Φ b ρ st) := by
  rw [ev]; congr
theorem ev_ite (t a b : C) : ev Φ (.ite t a b) ρ st = (ev Φ t ρ st).bind fun x st => ifR x (ev Φ a ρ st) (ev Φ b ρ st) := by
  rw [ev]; congr
theorem ev_tup (es : Cs) : ev Φ (.tup es) ρ st = (evs Φ es ρ st).bind fun xs st => if szOk xs.length then .ok (.tup xs) st else .bad := rfl
theorem ev_lst (es : Cs) : ev Φ (.lst es) ρ st = (evs Φ es ρ st).bind fun xs st => if szOk xs.length then .ok (.lst xs) st else .bad := rfl
theorem ev_call (f : Nat) (es : Cs) : ev Φ (.call f es) ρ st = (evs Φ es ρ st).bind fun xs st => (Φ f xs st).noexc := rfl
theorem ev_len (a : C) : ev Φ (.len a) ρ st = (ev Φ a ρ st).bind fun x st => R.of (lenV x) st := rfl
theorem ev_toInt (a : C) : ev Φ (.toInt a) ρ st = (ev Φ a ρ st).bind fun x st => R.of (toIntV x) st := rfl
theorem ev_tupleOf (a : C) : ev Φ (.tupleOf a) ρ st = (ev Φ a ρ st).bind fun x st => R.of (tupleV x) st := rfl
theorem ev_listOf (a : C) : ev Φ (.listOf a) ρ st = (ev Φ a ρ st).bind fun x st => R.of (listV x) st := rfl
theorem ev_isa (a : C) (t : Ty) : ev Φ (.isa a t) ρ st = (ev Φ a ρ st).bind fun x st => R.of ((isaV x t).map .bl) st := rfl
theorem ev_all (a : C) : ev Φ (.all a) ρ st = (ev Φ a ρ st).bind fun x st => R.of (allV x) st := rfl
def isL : PV → Bool
  | .lst _ => true
  | _ => false
theorem ev_indexOf (a b : C) : ev Φ (.indexOf a b) ρ st = (ev Φ a ρ st).bind fun x st => if isL x then (ev Φ b ρ st).bind fun y st => R.of (indexV x y) st else .bad := by
  rw [ev]; congr; funext x st; cases x <;> rfl
theorem ev_ix (a i : C) : ev Φ (.ix a i) ρ st = (ev Φ a ρ st).bind fun x st => (ev Φ i ρ st).bind fun y st => R.of (ixV st x y) st := rfl
theorem ev_sl (a : C) (lo hi : Cs) : ev Φ (.sl a lo hi) ρ st = (ev Φ a ρ st).bind fun x st => (evo Φ lo ρ st).bind fun l st => (evo Φ hi ρ st).bind fun h st => R.of (slV x l h) st := rfl
theorem ev_comp (elt : C) (tg : List Nat) (it : C) (ifs : Cs) (own : List Nat) : ev Φ (.comp elt tg it ifs own) ρ st = (ev Φ it ρ st).bind fun iv st => (R.of (itemsOf iv) st).bind fun xs st => (compL (turnF Φ elt tg ifs own ρ) xs st).bind fun ys st => if szOk ys.length then .ok (.lst ys) st else .bad := by
  rw [ev]; congr; funext x st; cases itemsOf x <;> rfl
theorem turnF_eq (elt : C) (tg : List Nat) (ifs : Cs) (own : List Nat) (x : PV) : turnF Φ elt tg ifs own ρ x st = (R.of (assignT tg x (wipeE ρ own)) st).bind fun ρ1 st => (evt Φ ifs ρ1 st).bind fun b st => if b then (ev Φ elt ρ1 st).bind fun y st => .ok (some y) st else .ok none st := by
  unfold turnF; cases assignT tg x (wipeE ρ own) <;> rfl
theorem ev_rng1 (a : C) : ev Φ (.rng1 a) ρ st = (ev Φ a ρ st).bind fun x st => R.of (rng1V x) st := rfl
theorem ev_rng2 (a b : C) : ev Φ (.rng2 a b) ρ st = (ev Φ a ρ st).bind fun x st => (ev Φ b ρ st).bind fun y st => R.of (rng2V x y) st := rfl
theorem ev_zip2 (a b : C) : ev Φ (.zip2 a b) ρ st = (ev Φ a ρ st).bind fun x st => (ev Φ b ρ st).bind fun y st => R.of (zipV x y) st := rfl
theorem ev_repr (a : C) : ev Φ (.repr a) ρ st = (ev Φ a ρ st).bind fun x st => R.of (reprV x) st := rfl
theorem ev_dct (a : Cs) : ev Φ (.dct a) ρ st = (evs Φ a ρ st).bind fun x st => R.of (dctV x) st := rfl
theorem ev_dget (a b : C) : ev Φ (.dget a b) ρ st = (ev Φ a ρ st).bind fun x st => (ev Φ b ρ st).bind fun y st => R.of (dgetV x y) st := rfl
theorem evs_nil : evs Φ .nil ρ st = .ok [] st := rfl
theorem evs_cons (a : C) (r : Cs) : evs Φ (.cons a r) ρ st = (ev Φ a ρ st).bind fun x st => (evs Φ r ρ st).bind fun xs st => .ok (x :: xs) st := rfl
def starV : PV → Option (List PV)
  | .tup ys => some ys
  | .lst ys => some ys
  | _ => none
theorem evs_star (a : C) (r : Cs) : evs Φ (.star a r) ρ st = (ev Φ a ρ st).bind fun x st => (R.of (starV x) st).bind fun ys st => (evs Φ r ρ st).bind fun xs st => .ok (ys ++ xs) st := by
  rw [evs]; congr; funext x st; cases x <;> rfl
theorem evo_nil : evo Φ .nil ρ st = .ok none st := rfl
def oInt : PV → Option (Option Int)
  | .int i => some (some i)
  | _ => none
@[simp] theorem oInt_int (i : Int) : oInt (.int i) = some (some i) := rfl
theorem evo_cons (a : C) : evo Φ (.cons a .nil) ρ st = (ev Φ a ρ st).bind fun x st => R.of (oInt x) st := by
  rw [evo]; congr; funext x st; cases x <;> rfl
theorem evt_nil : evt Φ .nil ρ st = .ok true st := rfl
theorem evt_cons (a : C) : evt Φ (.cons a .nil) ρ st = (ev Φ a ρ st).bind fun x st => R.of (blV x) st := rfl
@[simp] theorem blV_bl (b : Bool) : blV (.bl b) = some b := rfl
/-! statements -/
def thenO (o : Option En) (st : Cel) : RS := match o with
  | some ρ1 => .nx ρ1 st
  | none => .bad
@[simp] theorem thenO_some (ρ1 : En) (st : Cel) : thenO (some ρ1) st = .nx ρ1 st := rfl
theorem evS_asg (tg : List Nat) (e : C) : evS Φ F (.asg tg e) ρ st = (ev Φ e ρ st).then ρ fun x st => thenO (assignT tg x ρ) st := by
  rw [evS]; congr
theorem evS_par (is : List Nat) (es : Cs) : evS Φ F (.par is es) ρ st = (evs Φ es ρ st).then ρ fun xs st => if xs.length = is.length then .nx ((is.zip xs).foldl (fun ρ p => set1 ρ p.1 p.2) ρ) st else .bad := rfl
def lstV : PV → Option (List PV)
  | .lst xs => some xs
  | _ => none
@[simp] theorem lstV_lst (xs : List PV) : lstV (.lst xs) = some xs := rfl
def thenL (o : Option (List PV)) (k : List PV → RS) : RS := match o with
  | some xs => k xs
  | none => .bad
@[simp] theorem thenL_some (xs : List PV) (k : List PV → RS) : thenL (some xs) k = k xs := rfl
theorem evS_asgO (i : Nat) (e : C) : evS Φ F (.asgO i e) ρ st = (ev Φ e ρ st).then ρ fun x st => thenL (lstV x) fun xs => .nx (ρ.set i (.own (.lst xs))) st := by
  rw [evS]; congr; funext x st; cases x <;> rfl
theorem evS_asgC (i : Nat) (e : C) : evS Φ F (.asgC i e) ρ st = (ev Φ e ρ st).then ρ fun x st => thenL (lstV x) fun xs => .nx (ρ.set i (.val (.cell st.length))) (st ++ [.lst xs]) := by
  rw [evS]; congr; funext x st; cases x <;> rfl
def setCel (st : Cel) (x o j : PV) : Option Cel := match o, j with
  | .cell k, .int j => (match st[k]? with
    | some (.lst xs) => (match ixP xs.length j with
      | some n => some (st.set k (.lst (xs.set n x)))
      | none => none)
    | _ => none)
  | _, _ => none
def thenS (o : Option Cel) (ρ : En) : RS := match o with
  | some st => .nx ρ st
  | none => .bad
@[simp] theorem thenS_some (st : Cel) (ρ : En) : thenS (some st) ρ = .nx ρ st := rfl
theorem evS_setI (a i e : C) : evS Φ F (.setI a i e) ρ st = (ev Φ e ρ st).then ρ fun x st => (ev Φ a ρ st).then ρ fun o st => (ev Φ i ρ st).then ρ fun j st => thenS (setCel st x o j) ρ := by
  rw [evS]; congr; funext x st; congr; funext o st; congr; funext j st
  unfold setCel
  cases o <;> try rfl
  cases j <;> try rfl
  rename_i k j
  show (match st[k]? with
      | some (.lst xs) => (match ixP xs.length j with
        | some n => RS.nx ρ (st.set k (.lst (xs.set n x)))
        | none => .bad)
      | _ => .bad) = thenS (match st[k]? with
    | some (.lst xs) => (match ixP xs.length j with
      | some n => some (st.set k (.lst (xs.set n x)))
      | none => none)
    | _ => none) ρ
  cases st[k]? with
  | none => rfl
  | some v =>
    cases v <;> try rfl
    rename_i xs
    show (match ixP xs.length j with
        | some n => RS.nx ρ (st.set k (.lst (xs.set n x)))
        | none => .bad) = thenS (match ixP xs.length j with
      | some n => some (st.set k (.lst (xs.set n x)))
      | none => none) ρ
    cases ixP xs.length j <;> rfl
def ownL (o : Option Slot) : Option (List PV) := match o with
  | some (.own (.lst xs)) => some xs
  | _ => none
@[simp] theorem ownL_own (xs : List PV) : ownL (some (.own (.lst xs))) = some xs := rfl
theorem evS_app (i : Nat) (e : C) : evS Φ F (.app i e) ρ st = thenL (ownL ρ[i]?) fun xs => (ev Φ e ρ st).then ρ fun x st => if szOk (xs.length + 1) then .nx (ρ.set i (.own (.lst (xs ++ [x])))) st else .bad := by
  rw [evS]
  cases ρ[i]? with
  | none => rfl
  | some v =>
    cases v <;> try rfl
    rename_i v
    cases v <;> rfl
theorem evS_ext (i : Nat) (e : C) : evS Φ F (.ext i e) ρ st = thenL (ownL ρ[i]?) fun xs => (ev Φ e ρ st).then ρ fun x st => thenL (lstV x) fun ys => if szOk (xs.length + ys.length) then .nx (ρ.set i (.own (.lst (xs ++ ys)))) st else .bad := by
  rw [evS]
  cases ρ[i]? with
  | none => rfl
  | some v =>
    cases v <;> try rfl
    rename_i v
    cases v <;> try rfl
    show (ev Φ e ρ st).then ρ _ = (ev Φ e ρ st).then ρ _
    congr; funext x st; cases x <;> rfl
theorem evS_if (t : C) (a b : Ss) : evS Φ F (.if_ t a b) ρ st = (ev Φ t ρ st).then ρ fun x st => ifB x (evSs Φ F a ρ st) (evSs Φ F b ρ st) := rfl
def bodyL (tg : List Nat) (b : Ss) (x : PV) (ρ : En) (st : Cel) : RS := match assignT tg x ρ with
  | some ρ1 => evSs Φ F b ρ1 st
  | none => .bad
theorem bodyL_eq {tg : List Nat} {b : Ss} {x : PV} {ρ ρ1 : En} {st : Cel} (h : assignT tg x ρ = some ρ1) : bodyL Φ F tg b x ρ st = evSs Φ F b ρ1 st := by unfold bodyL; rw [h]
theorem bodyL_1 {i : Nat} {b : Ss} {x : PV} {ρ : En} {st : Cel} : bodyL Φ F [i] b x ρ st = evSs Φ F b (set1 ρ i x) st := rfl
theorem evS_for (tg : List Nat) (it : C) (b : Ss) : evS Φ F (.for_ tg it b) ρ st = (ev Φ it ρ st).then ρ fun iv st => thenL (itemsOf iv) fun xs => forL (bodyL Φ F tg b) xs ρ st := by
  rw [evS]; congr
theorem evS_while (t : C) (b : Ss) : evS Φ F (.while_ t b) ρ st = whileL (fun ρ st => ev Φ t ρ st) (fun ρ st => evSs Φ F b ρ st) F ρ st := rfl
theorem evS_ret (e : C) : evS Φ F (.ret e) ρ st = (ev Φ e ρ st).then ρ fun x st => .rt x st := rfl
theorem evS_expr (e : C) : evS Φ F (.expr e) ρ st = (ev Φ e ρ st).then ρ fun _ st => .nx ρ st := rfl
theorem evS_pass : evS Φ F .pass ρ st = .nx ρ st := rfl
theorem evS_brk : evS Φ F .brk ρ st = .bk ρ st := rfl
theorem evS_cnt : evS Φ F .cnt ρ st = .ct ρ st := rfl
def frzE (o : Option Slot) (i : Nat) (ρ : En) (st : Cel) : RS := match o with
  | some (.own v) => .nx (ρ.set i (.val v)) st
  | _ => .nx ρ st
@[simp] theorem frzE_own (v : PV) (i : Nat) : frzE (some (.own v)) i ρ st = .nx (ρ.set i (.val v)) st := rfl
@[simp] theorem frzE_val (v : PV) (i : Nat) : frzE (some (.val v)) i ρ st = .nx ρ st := rfl
@[simp] theorem frzE_emp (i : Nat) : frzE (some .emp) i ρ st = .nx ρ st := rfl
theorem evS_frz (i : Nat) : evS Φ F (.frz i) ρ st = frzE ρ[i]? i ρ st := by
  rw [evS]; cases ρ[i]? with
  | none => rfl
  | some v => cases v <;> rfl
def tupV : PV → Option (List PV)
  | .tup xs => some xs
  | _ => none
@[simp] theorem tupV_tup (xs : List PV) : tupV (.tup xs) = some xs := rfl
theorem evS_ustar (is : List Nat) (j : Nat) (e : C) : evS Φ F (.ustar is j e) ρ st = (ev Φ e ρ st).then ρ fun x st => thenL (tupV x) fun xs => if is.length ≤ xs.length ∧ xs.length ≤ 16384 then .nx (set1 ((is.zip (xs.take is.length)).foldl (fun ρ p => set1 ρ p.1 p.2) ρ) j (.lst (xs.drop is.length))) st else .bad := by
  rw [evS]; congr; funext x st; cases x <;> rfl
theorem evSs_nil : evSs Φ F .nil ρ st = .nx ρ st := rfl
theorem evSs_cons (s : Ev.S) (r : Ss) : evSs Φ F (.cons s r) ρ st = (evS Φ F s ρ st).seq fun ρ st => evSs Φ F r ρ st := rfl
end
/-! ### the same, lazily: what stands behind is kept out of simp's sight -/
class Kp (α : Type) where
  run : α → Cel → Prop
class Kq where
  N : En → Cel → Prop
  T : PV → Cel → Prop
  B : En → Cel → Prop
  C : En → Cel → Prop
@[irreducible] def R.w {α : Type} (r : R α) [Q : Kp α] : Prop := r.wp Q.run
@[irreducible] def RS.w (r : RS) [Q : Kq] : Prop := r.wp Q.N Q.T Q.B Q.C
@[simp ↓] theorem Kp_run {α : Type} (f : α → Cel → Prop) (a : α) (st : Cel) : @Kp.run α ⟨f⟩ a st = f a st := rfl
section
variable (N : En → Cel → Prop) (T : PV → Cel → Prop) (B C : En → Cel → Prop) (ρ : En) (st : Cel)
@[simp ↓] theorem Kq_N : @Kq.N ⟨N, T, B, C⟩ ρ st = N ρ st := rfl
@[simp ↓] theorem Kq_T (v : PV) : @Kq.T ⟨N, T, B, C⟩ v st = T v st := rfl
@[simp ↓] theorem Kq_B : @Kq.B ⟨N, T, B, C⟩ ρ st = B ρ st := rfl
@[simp ↓] theorem Kq_C : @Kq.C ⟨N, T, B, C⟩ ρ st = C ρ st := rfl
end
theorem R.w_mono {α : Type} {r : R α} {Q Q' : Kp α} (h : @R.w α r Q) (i : ∀ a st, Q.run a st → Q'.run a st) : @R.w α r Q' := by with_unfolding_all exact R.wp_mono h i
theorem R.w_eq {α : Type} {r : R α} {Q : Kp α} (h : @R.w α r Q) : ∃ a st, r = .ok a st ∧ Q.run a st := by with_unfolding_all exact R.wp_eq h
section
variable {α β : Type} (Q : Kp α) (Qb : Kp β)
@[simp] theorem R.w_ok (a : α) (st : Cel) : @R.w α (.ok a st) Q = Q.run a st := by with_unfolding_all rfl
@[simp] theorem R.w_bad : @R.w α .bad Q = False := by with_unfolding_all rfl
@[simp] theorem R.w_exc (e : EX) (st : Cel) : @R.w α (.exc e st) Q = False := by with_unfolding_all rfl
@[simp ↓] theorem R.w_bind (r : R β) (f : β → Cel → R α) : @R.w α (r.bind f) Q = @R.w β r ⟨fun a st => @R.w α (f a st) Q⟩ := by with_unfolding_all exact R.wp_bind r f _
theorem R.w_bind2 {γ : Type} (Qc : Kp γ) (r : R α) (g : α → Cel → R β) (h : α → β → Cel → R γ) : @R.w γ (r.bind fun x st => (g x st).bind fun y st => h x y st) Qc = @R.w α r ⟨fun x st => @R.w β (g x st) ⟨fun y st => @R.w γ (h x y st) Qc⟩⟩ := by
  cases r with
  | ok a st => with_unfolding_all exact R.w_bind Qc (g a st) (fun y st => h a y st)
  | exc e st => with_unfolding_all rfl
  | bad => with_unfolding_all rfl
theorem R.w_bind3 {γ δ : Type} (Qd : Kp δ) (r : R α) (g : α → Cel → R β) (h : α → β → Cel → R γ) (k : α → β → γ → Cel → R δ) : @R.w δ (r.bind fun x st => (g x st).bind fun y st => (h x y st).bind fun z st => k x y z st) Qd = @R.w α r ⟨fun x st => @R.w β (g x st) ⟨fun y st => @R.w γ (h x y st) ⟨fun z st => @R.w δ (k x y z st) Qd⟩⟩⟩ := by
  cases r with
  | ok a st => with_unfolding_all exact R.w_bind2 Qd (g a st) (fun y st => h a y st) (fun y z st => k a y z st)
  | exc e st => with_unfolding_all rfl
  | bad => with_unfolding_all rfl
@[simp ↓] theorem R.w_noexc (r : R α) : @R.w α r.noexc Q = @R.w α r Q := by with_unfolding_all exact R.wp_noexc r _
@[simp ↓] theorem R.w_ite (c : Prop) [Decidable c] (a b : R α) : @R.w α (if c then a else b) Q = if c then @R.w α a Q else @R.w α b Q := by split <;> (with_unfolding_all rfl)
@[simp ↓] theorem R.w_ifR (c : Bool) (a b : R α) : @R.w α (ifR (.bl c) a b) Q = if c = true then @R.w α a Q else @R.w α b Q := by cases c <;> (with_unfolding_all rfl)
end
section
variable (Φ : Nat → List PV → Cel → R PV) (F : Nat) (ρ : En) (st : Cel) (Q : Kp PV) (Qs : Kp (List PV)) (Qb : Kp Bool) (Qo : Kp (Option Int)) (K : Kq)
@[simp ↓] theorem w_var (i : Nat) : @R.w _ (ev Φ (.var i) ρ st) Q = @R.w _ (getV ρ[i]? st) Q := by with_unfolding_all rfl
@[simp ↓] theorem w_bor (i : Nat) : @R.w _ (ev Φ (.bor i) ρ st) Q = @R.w _ (getB ρ[i]? st) Q := by with_unfolding_all rfl
@[simp ↓] theorem w_int (i : Int) : @R.w _ (ev Φ (.int i) ρ st) Q = Q.run (.int i) st := by with_unfolding_all rfl
@[simp ↓] theorem w_str (i : Str) : @R.w _ (ev Φ (.str i) ρ st) Q = Q.run (.str i) st := by with_unfolding_all rfl
@[simp ↓] theorem w_bl (i : Bool) : @R.w _ (ev Φ (.bl i) ρ st) Q = Q.run (.bl i) st := by with_unfolding_all rfl
@[simp ↓] theorem w_non : @R.w _ (ev Φ .non ρ st) Q = Q.run .non st := by with_unfolding_all rfl
@[simp ↓] theorem w_bin (op : BOp) (a b : C) : @R.w _ (ev Φ (.bin op a b) ρ st) Q = @R.w _ (ev Φ a ρ st) ⟨fun x st => @R.w _ (ev Φ b ρ st) ⟨fun y st => @R.w _ (R.of (binV op x y) st) Q⟩⟩ := by rw [ev_bin]; with_unfolding_all exact R.w_bind2 ..
@[simp ↓] theorem w_neg (a : C) : @R.w _ (ev Φ (.neg a) ρ st) Q = @R.w _ (ev Φ a ρ st) ⟨fun x st => @R.w _ (R.of (negV x) st) Q⟩ := by rw [ev_neg, R.w_bind]
@[simp ↓] theorem w_not (a : C) : @R.w _ (ev Φ (.not a) ρ st) Q = @R.w _ (ev Φ a ρ st) ⟨fun x st => @R.w _ (R.of (notV x) st) Q⟩ := by rw [ev_not, R.w_bind]
@[simp ↓] theorem w_cmp (op : COp) (a b : C) : @R.w _ (ev Φ (.cmp op a b) ρ st) Q = @R.w _ (ev Φ a ρ st) ⟨fun x st => @R.w _ (ev Φ b ρ st) ⟨fun y st => @R.w _ (R.of ((cmpV op x y).map .bl) st) Q⟩⟩ := by rw [ev_cmp]; with_unfolding_all exact R.w_bind2 ..
@[simp ↓] theorem w_and (a b : C) : @R.w _ (ev Φ (.and a b) ρ st) Q = @R.w _ (ev Φ a ρ st) ⟨fun x st => @R.w _ (ifR x (ev Φ b ρ st) (.ok (.bl false) st)) Q⟩ := by rw [ev_and, R.w_bind]
@[simp ↓] theorem w_or (a b : C) : @R.w _ (ev Φ (.or a b) ρ st) Q = @R.w _ (ev Φ a ρ st) ⟨fun x st => @R.w _ (ifR x (.ok (.bl true) st) (ev Φ b ρ st)) Q⟩ := by rw [ev_or, R.w_bind]
@[simp ↓] theorem w_ite (t a b : C) : @R.w _ (ev Φ (.ite t a b) ρ st) Q = @R.w _ (ev Φ t ρ st) ⟨fun x st => @R.w _ (ifR x (ev Φ a ρ st) (ev Φ b ρ st)) Q⟩ := by rw [ev_ite, R.w_bind]
@[simp ↓] theorem w_tup (es : Cs) : @R.w _ (ev Φ (.tup es) ρ st) Q = @R.w _ (evs Φ es ρ st) ⟨fun xs st => @R.w _ (if szOk xs.length then .ok (.tup xs) st else .bad) Q⟩ := by rw [ev_tup, R.w_bind]
@[simp ↓] theorem w_lst (es : Cs) : @R.w _ (ev Φ (.lst es) ρ st) Q = @R.w _ (evs Φ es ρ st) ⟨fun xs st => @R.w _ (if szOk xs.length then .ok (.lst xs) st else .bad) Q⟩ := by rw [ev_lst, R.w_bind]
@[simp ↓] theorem w_call (f : Nat) (es : Cs) : @R.w _ (ev Φ (.call f es) ρ st) Q = @R.w _ (evs Φ es ρ st) ⟨fun xs st => @R.w _ (Φ f xs st) Q⟩ := by rw [ev_call]; with_unfolding_all refine (R.w_bind ..).trans ?_; cases evs Φ es ρ st <;> first | (with_unfolding_all rfl) | (with_unfolding_all exact R.w_noexc ..)
@[simp ↓] theorem w_len (a : C) : @R.w _ (ev Φ (.len a) ρ st) Q = @R.w _ (ev Φ a ρ st) ⟨fun x st => @R.w _ (R.of (lenV x) st) Q⟩ := by rw [ev_len, R.w_bind]
@[simp ↓] theorem w_toInt (a : C) : @R.w _ (ev Φ (.toInt a) ρ st) Q = @R.w _ (ev Φ a ρ st) ⟨fun x st => @R.w _ (R.of (toIntV x) st) Q⟩ := by rw [ev_toInt, R.w_bind]
@[simp ↓] theorem w_tupleOf (a : C) : @R.w _ (ev Φ (.tupleOf a) ρ st) Q = @R.w _ (ev Φ a ρ st) ⟨fun x st => @R.w _ (R.of (tupleV x) st) Q⟩ := by rw [ev_tupleOf, R.w_bind]
@[simp ↓] theorem w_listOf (a : C) : @R.w _ (ev Φ (.listOf a) ρ st) Q = @R.w _ (ev Φ a ρ st) ⟨fun x st => @R.w _ (R.of (listV x) st) Q⟩ := by rw [ev_listOf, R.w_bind]
@[simp ↓] theorem w_isa (a : C) (t : Ty) : @R.w _ (ev Φ (.isa a t) ρ st) Q = @R.w _ (ev Φ a ρ st) ⟨fun x st => @R.w _ (R.of ((isaV x t).map .bl) st) Q⟩ := by rw [ev_isa, R.w_bind]
@[simp ↓] theorem w_all (a : C) : @R.w _ (ev Φ (.all a) ρ st) Q = @R.w _ (ev Φ a ρ st) ⟨fun x st => @R.w _ (R.of (allV x) st) Q⟩ := by rw [ev_all, R.w_bind]
@[simp ↓] theorem w_indexOf (a b : C) : @R.w _ (ev Φ (.indexOf a b) ρ st) Q = @R.w _ (ev Φ a ρ st) ⟨fun x st => @R.w _ (if isL x then (ev Φ b ρ st).bind fun y st => R.of (indexV x y) st else .bad) Q⟩ := by rw [ev_indexOf, R.w_bind]
@[simp ↓] theorem w_ix (a i : C) : @R.w _ (ev Φ (.ix a i) ρ st) Q = @R.w _ (ev Φ a ρ st) ⟨fun x st => @R.w _ (ev Φ i ρ st) ⟨fun y st => @R.w _ (R.of (ixV st x y) st) Q⟩⟩ := by rw [ev_ix]; with_unfolding_all exact R.w_bind2 ..
@[simp ↓] theorem w_sl (a : C) (lo hi : Cs) : @R.w _ (ev Φ (.sl a lo hi) ρ st) Q = @R.w _ (ev Φ a ρ st) ⟨fun x st => @R.w _ (evo Φ lo ρ st) ⟨fun l st => @R.w _ (evo Φ hi ρ st) ⟨fun h st => @R.w _ (R.of (slV x l h) st) Q⟩⟩⟩ := by rw [ev_sl]; with_unfolding_all exact R.w_bind3 ..
@[simp ↓] theorem w_comp (elt : C) (tg : List Nat) (it : C) (ifs : Cs) (own : List Nat) : @R.w _ (ev Φ (.comp elt tg it ifs own) ρ st) Q = @R.w _ (ev Φ it ρ st) ⟨fun iv st => @R.w _ (R.of (itemsOf iv) st) ⟨fun xs st => @R.w _ (compL (turnF Φ elt tg ifs own ρ) xs st) ⟨fun ys st => @R.w _ (if szOk ys.length then .ok (.lst ys) st else .bad) Q⟩⟩⟩ := by rw [ev_comp]; with_unfolding_all exact R.w_bind3 ..
@[simp ↓] theorem w_rng1 (a : C) : @R.w _ (ev Φ (.rng1 a) ρ st) Q = @R.w _ (ev Φ a ρ st) ⟨fun x st => @R.w _ (R.of (rng1V x) st) Q⟩ := by rw [ev_rng1, R.w_bind]
@[simp ↓] theorem w_rng2 (a b : C) : @R.w _ (ev Φ (.rng2 a b) ρ st) Q = @R.w _ (ev Φ a ρ st) ⟨fun x st => @R.w _ (ev Φ b ρ st) ⟨fun y st => @R.w _ (R.of (rng2V x y) st) Q⟩⟩ := by rw [ev_rng2]; with_unfolding_all exact R.w_bind2 ..
@[simp ↓] theorem w_zip2 (a b : C) : @R.w _ (ev Φ (.zip2 a b) ρ st) Q = @R.w _ (ev Φ a ρ st) ⟨fun x st => @R.w _ (ev Φ b ρ st) ⟨fun y st => @R.w _ (R.of (zipV x y) st) Q⟩⟩ := by rw [ev_zip2]; with_unfolding_all exact R.w_bind2 ..
@[simp ↓] theorem w_repr (a : C) : @R.w _ (ev Φ (.repr a) ρ st) Q = @R.w _ (ev Φ a ρ st) ⟨fun x st => @R.w _ (R.of (reprV x) st) Q⟩ := by rw [ev_repr, R.w_bind]
@[simp ↓] theorem w_dct (a : Cs) : @R.w _ (ev Φ (.dct a) ρ st) Q = @R.w _ (evs Φ a ρ st) ⟨fun x st => @R.w _ (R.of (dctV x) st) Q⟩ := by rw [ev_dct, R.w_bind]
@[simp ↓] theorem w_dget (a b : C) : @R.w _ (ev Φ (.dget a b) ρ st) Q = @R.w _ (ev Φ a ρ st) ⟨fun x st => @R.w _ (ev Φ b ρ st) ⟨fun y st => @R.w _ (R.of (dgetV x y) st) Q⟩⟩ := by rw [ev_dget]; with_unfolding_all exact R.w_bind2 ..
@[simp ↓] theorem ws_nil : @R.w _ (evs Φ .nil ρ st) Qs = Qs.run [] st := by with_unfolding_all rfl
@[simp ↓] theorem ws_cons (a : C) (r : Cs) : @R.w _ (evs Φ (.cons a r) ρ st) Qs = @R.w _ (ev Φ a ρ st) ⟨fun x st => @R.w _ (evs Φ r ρ st) ⟨fun xs st => Qs.run (x :: xs) st⟩⟩ := by rw [evs_cons]; with_unfolding_all exact R.w_bind2 ..
@[simp ↓] theorem ws_star (a : C) (r : Cs) : @R.w _ (evs Φ (.star a r) ρ st) Qs = @R.w _ (ev Φ a ρ st) ⟨fun x st => @R.w _ (R.of (starV x) st) ⟨fun ys st => @R.w _ (evs Φ r ρ st) ⟨fun xs st => Qs.run (ys ++ xs) st⟩⟩⟩ := by rw [evs_star]; with_unfolding_all exact R.w_bind3 ..
@[simp ↓] theorem wo_nil : @R.w _ (evo Φ .nil ρ st) Qo = Qo.run none st := by with_unfolding_all rfl
@[simp ↓] theorem wo_cons (a : C) : @R.w _ (evo Φ (.cons a .nil) ρ st) Qo = @R.w _ (ev Φ a ρ st) ⟨fun x st => @R.w _ (R.of (oInt x) st) Qo⟩ := by rw [evo_cons, R.w_bind]
@[simp ↓] theorem wt_nil : @R.w _ (evt Φ .nil ρ st) Qb = Qb.run true st := by with_unfolding_all rfl
@[simp ↓] theorem wt_cons (a : C) : @R.w _ (evt Φ (.cons a .nil) ρ st) Qb = @R.w _ (ev Φ a ρ st) ⟨fun x st => @R.w _ (R.of (blV x) st) Qb⟩ := by rw [evt_cons, R.w_bind]
theorem w_turn (elt : C) (tg : List Nat) (ifs : Cs) (own : List Nat) (x : PV) (Qt : Kp (Option PV)) : @R.w _ (turnF Φ elt tg ifs own ρ x st) Qt = @R.w _ (R.of (assignT tg x (wipeE ρ own)) st) ⟨fun ρ1 st => @R.w _ (evt Φ ifs ρ1 st) ⟨fun b st => if b then @R.w _ (ev Φ elt ρ1 st) ⟨fun y st => Qt.run (some y) st⟩ else Qt.run none st⟩⟩ := by
  rw [turnF_eq]; with_unfolding_all refine (R.w_bind2 ..).trans ?_
  cases assignT tg x (wipeE ρ own) with
  | none => with_unfolding_all rfl
  | some ρ1 =>
    with_unfolding_all change @R.w _ (evt Φ ifs ρ1 st) ⟨_⟩ = @R.w _ (evt Φ ifs ρ1 st) ⟨_⟩
    cases evt Φ ifs ρ1 st with
    | ok b s =>
      cases b with
      | true => with_unfolding_all exact R.w_bind ..
      | false => with_unfolding_all rfl
    | exc e s => with_unfolding_all rfl
    | bad => with_unfolding_all rfl
/-! statements -/
@[simp] theorem RS.w_nx : @RS.w (.nx ρ st) K = K.N ρ st := by with_unfolding_all rfl
@[simp] theorem RS.w_rt (v : PV) : @RS.w (.rt v st) K = K.T v st := by with_unfolding_all rfl
@[simp] theorem RS.w_bk : @RS.w (.bk ρ st) K = K.B ρ st := by with_unfolding_all rfl
@[simp] theorem RS.w_ct : @RS.w (.ct ρ st) K = K.C ρ st := by with_unfolding_all rfl
@[simp] theorem RS.w_bad : @RS.w .bad K = False := by with_unfolding_all rfl
@[simp] theorem RS.w_exc (e : EX) : @RS.w (.exc e ρ st) K = False := by with_unfolding_all rfl
@[simp ↓] theorem RS.w_then {α : Type} (r : R α) (f : α → Cel → RS) : @RS.w (r.then ρ f) K = @R.w α r ⟨fun a st => @RS.w (f a st) K⟩ := by with_unfolding_all exact RS.wp_then _ _ _ _ r ρ f
@[simp ↓] theorem RS.w_ite (c : Prop) [Decidable c] (a b : RS) : @RS.w (if c then a else b) K = if c then @RS.w a K else @RS.w b K := by split <;> (with_unfolding_all rfl)
@[simp ↓] theorem RS.w_ifB (c : Bool) (a b : RS) : @RS.w (ifB (.bl c) a b) K = if c = true then @RS.w a K else @RS.w b K := by cases c <;> (with_unfolding_all rfl)
@[simp ↓] theorem RS.w_thenL (xs : List PV) (k : List PV → RS) : @RS.w (thenL (some xs) k) K = @RS.w (k xs) K := by with_unfolding_all rfl
theorem w_fin (r : RS) : @R.w _ (fin r) Q = @RS.w r ⟨fun _ st => Q.run .non st, Q.run, fun _ _ => False, fun _ _ => False⟩ := by with_unfolding_all exact wp_fin r _
@[simp ↓] theorem wSs_nil : @RS.w (evSs Φ F .nil ρ st) K = K.N ρ st := by with_unfolding_all rfl
@[simp ↓] theorem wSs_cons (s : Ev.S) (r : Ss) : @RS.w (evSs Φ F (.cons s r) ρ st) K = @RS.w (evS Φ F s ρ st) ⟨fun ρ st => @RS.w (evSs Φ F r ρ st) K, K.T, K.B, K.C⟩ := by with_unfolding_all exact RS.wp_seq _ _ _ _ _ _
@[simp ↓] theorem wS_asg (tg : List Nat) (e : C) : @RS.w (evS Φ F (.asg tg e) ρ st) K = @R.w _ (ev Φ e ρ st) ⟨fun x st => @RS.w (thenO (assignT tg x ρ) st) K⟩ := by rw [evS_asg, RS.w_then]
@[simp ↓] theorem wS_par (is : List Nat) (es : Cs) : @RS.w (evS Φ F (.par is es) ρ st) K = @R.w _ (evs Φ es ρ st) ⟨fun xs st => @RS.w (if xs.length = is.length then .nx ((is.zip xs).foldl (fun ρ p => set1 ρ p.1 p.2) ρ) st else .bad) K⟩ := by rw [evS_par, RS.w_then]
@[simp ↓] theorem wS_asgO (i : Nat) (e : C) : @RS.w (evS Φ F (.asgO i e) ρ st) K = @R.w _ (ev Φ e ρ st) ⟨fun x st => @R.w _ (R.of (lstV x) st) ⟨fun xs st => K.N (ρ.set i (.own (.lst xs))) st⟩⟩ := by
  rw [evS_asgO, RS.w_then]; congr; funext x st; cases x <;> (with_unfolding_all rfl)
@[simp ↓] theorem wS_asgC (i : Nat) (e : C) : @RS.w (evS Φ F (.asgC i e) ρ st) K = @R.w _ (ev Φ e ρ st) ⟨fun x st => @R.w _ (R.of (lstV x) st) ⟨fun xs st => K.N (ρ.set i (.val (.cell st.length))) (st ++ [.lst xs])⟩⟩ := by
  rw [evS_asgC, RS.w_then]; congr; funext x st; cases x <;> (with_unfolding_all rfl)
@[simp ↓] theorem wS_setI (a i e : C) : @RS.w (evS Φ F (.setI a i e) ρ st) K = @R.w _ (ev Φ e ρ st) ⟨fun x st => @R.w _ (ev Φ a ρ st) ⟨fun o st => @R.w _ (ev Φ i ρ st) ⟨fun j st => @RS.w (thenS (setCel st x o j) ρ) K⟩⟩⟩ := by
  rw [evS_setI, RS.w_then]
  cases ev Φ e ρ st with
  | ok x s =>
    with_unfolding_all refine (RS.w_then ..).trans ?_
    with_unfolding_all change @R.w _ (ev Φ a ρ s) ⟨_⟩ = @R.w _ (ev Φ a ρ s) ⟨_⟩
    cases ev Φ a ρ s <;> first | (with_unfolding_all rfl) | (with_unfolding_all exact RS.w_then ..)
  | exc e s => with_unfolding_all rfl
  | bad => with_unfolding_all rfl
@[simp ↓] theorem wS_app (i : Nat) (e : C) : @RS.w (evS Φ F (.app i e) ρ st) K = @R.w _ (R.of (ownL ρ[i]?) st) ⟨fun xs st => @R.w _ (ev Φ e ρ st) ⟨fun x st => @RS.w (if szOk (xs.length + 1) then .nx (ρ.set i (.own (.lst (xs ++ [x])))) st else .bad) K⟩⟩ := by
  rw [evS_app]; cases ownL ρ[i]? with
  | none => with_unfolding_all rfl
  | some xs => with_unfolding_all exact RS.w_then ..
@[simp ↓] theorem wS_ext (i : Nat) (e : C) : @RS.w (evS Φ F (.ext i e) ρ st) K = @R.w _ (R.of (ownL ρ[i]?) st) ⟨fun xs st => @R.w _ (ev Φ e ρ st) ⟨fun x st => @R.w _ (R.of (lstV x) st) ⟨fun ys st => @RS.w (if szOk (xs.length + ys.length) then .nx (ρ.set i (.own (.lst (xs ++ ys)))) st else .bad) K⟩⟩⟩ := by
  rw [evS_ext]; cases ownL ρ[i]? with
  | none => with_unfolding_all rfl
  | some xs =>
    with_unfolding_all refine (RS.w_then ..).trans ?_
    with_unfolding_all change _ = @R.w _ (ev Φ e ρ st) ⟨_⟩
    congr; funext x st; cases x <;> (with_unfolding_all rfl)
@[simp ↓] theorem wS_if (t : C) (a b : Ss) : @RS.w (evS Φ F (.if_ t a b) ρ st) K = @R.w _ (ev Φ t ρ st) ⟨fun x st => @RS.w (ifB x (evSs Φ F a ρ st) (evSs Φ F b ρ st)) K⟩ := by rw [evS_if, RS.w_then]
@[simp ↓] theorem wS_for (tg : List Nat) (it : C) (b : Ss) : @RS.w (evS Φ F (.for_ tg it b) ρ st) K = @R.w _ (ev Φ it ρ st) ⟨fun iv st => @R.w _ (R.of (itemsOf iv) st) ⟨fun xs st => @RS.w (forL (bodyL Φ F tg b) xs ρ st) K⟩⟩ := by
  rw [evS_for, RS.w_then]; congr; funext x st; cases itemsOf x <;> (with_unfolding_all rfl)
@[simp ↓] theorem wS_while (t : C) (b : Ss) : @RS.w (evS Φ F (.while_ t b) ρ st) K = @RS.w (whileL (fun ρ st => ev Φ t ρ st) (fun ρ st => evSs Φ F b ρ st) F ρ st) K := by with_unfolding_all rfl
@[simp ↓] theorem wS_ret (e : C) : @RS.w (evS Φ F (.ret e) ρ st) K = @R.w _ (ev Φ e ρ st) ⟨fun x st => K.T x st⟩ := by rw [evS_ret, RS.w_then]; with_unfolding_all rfl
@[simp ↓] theorem wS_expr (e : C) : @RS.w (evS Φ F (.expr e) ρ st) K = @R.w _ (ev Φ e ρ st) ⟨fun x st => K.N ρ st⟩ := by rw [evS_expr, RS.w_then]; with_unfolding_all rfl
@[simp ↓] theorem wS_pass : @RS.w (evS Φ F .pass ρ st) K = K.N ρ st := by with_unfolding_all rfl
@[simp ↓] theorem wS_brk : @RS.w (evS Φ F .brk ρ st) K = K.B ρ st := by with_unfolding_all rfl
@[simp ↓] theorem wS_cnt : @RS.w (evS Φ F .cnt ρ st) K = K.C ρ st := by with_unfolding_all rfl
@[simp ↓] theorem wS_frz (i : Nat) : @RS.w (evS Φ F (.frz i) ρ st) K = @RS.w (frzE ρ[i]? i ρ st) K := by rw [evS_frz]
@[simp ↓] theorem wS_ustar (is : List Nat) (j : Nat) (e : C) : @RS.w (evS Φ F (.ustar is j e) ρ st) K = @R.w _ (ev Φ e ρ st) ⟨fun x st => @R.w _ (R.of (tupV x) st) ⟨fun xs st => @RS.w (if is.length ≤ xs.length ∧ xs.length ≤ 16384 then .nx (set1 ((is.zip (xs.take is.length)).foldl (fun ρ p => set1 ρ p.1 p.2) ρ) j (.lst (xs.drop is.length))) st else .bad) K⟩⟩ := by
  rw [evS_ustar, RS.w_then]; congr; funext x st; cases x <;> (with_unfolding_all rfl)
end
/-- a walk by what holds of the rest -/
theorem forL_w {f : PV → En → Cel → RS} {xs : List PV} {ρ : En} {st : Cel} {K : Kq} (I : List PV → En → Cel → Prop) (h0 : I xs ρ st)
    (hs : ∀ x r ρ st, I (x :: r) ρ st → @RS.w (f x ρ st) ⟨I r, K.T, K.N, I r⟩) (hN : ∀ ρ st, I [] ρ st → K.N ρ st) : @RS.w (forL f xs ρ st) K := by with_unfolding_all exact forL_wp I h0 hs hN
theorem compL_w {f : PV → Cel → R (Option PV)} {xs : List PV} {st : Cel} {Q : Kp (List PV)} (I : List PV → List PV → Cel → Prop) (h0 : I xs [] st)
    (hs : ∀ x r acc st, I (x :: r) acc st → @R.w _ (f x st) ⟨fun o st' => I r (acc ++ o.toList) st'⟩) (hQ : ∀ ys st, I [] ys st → Q.run ys st) : @R.w _ (compL f xs st) Q := by with_unfolding_all exact compL_wp I h0 hs hQ
theorem compL_wpure {f : PV → Cel → R (Option PV)} {xs : List PV} {st : Cel} {Q : Kp (List PV)} (g : PV → Option PV) (h : ∀ x ∈ xs, f x st = .ok (g x) st) (q : Q.run (xs.filterMap g) st) : @R.w _ (compL f xs st) Q := by rw [compL_pure g h]; with_unfolding_all exact q
theorem compL_wmap {f : PV → Cel → R (Option PV)} {xs : List PV} {st : Cel} {Q : Kp (List PV)} (g : PV → PV) (h : ∀ x ∈ xs, f x st = .ok (some (g x)) st) (q : Q.run (xs.map g) st) : @R.w _ (compL f xs st) Q := by rw [compL_map g h]; with_unfolding_all exact q
theorem w_compL_nil {f : PV → Cel → R (Option PV)} {st : Cel} (Q : Kp (List PV)) : @R.w _ (compL f [] st) Q = Q.run [] st := by with_unfolding_all rfl
theorem w_compL_cons {f : PV → Cel → R (Option PV)} {x : PV} {xs : List PV} {st : Cel} (Q : Kp (List PV)) : @R.w _ (compL f (x :: xs) st) Q = @R.w _ (f x st) ⟨fun o st => @R.w _ (compL f xs st) ⟨fun ys st => Q.run (o.toList ++ ys) st⟩⟩ := by
  rw [compL]
  cases f x st with
  | ok o s =>
    with_unfolding_all refine (R.w_bind ..).trans ?_
    with_unfolding_all change @R.w _ (compL f xs s) ⟨_⟩ = @R.w _ (compL f xs s) ⟨_⟩
    cases o <;> (with_unfolding_all rfl)
  | exc e s => with_unfolding_all rfl
  | bad => with_unfolding_all rfl
theorem w_forL_nil {f : PV → En → Cel → RS} {ρ : En} {st : Cel} (K : Kq) : @RS.w (forL f [] ρ st) K = K.N ρ st := by with_unfolding_all rfl
theorem w_forL_cons {f : PV → En → Cel → RS} {x : PV} {xs : List PV} {ρ : En} {st : Cel} (K : Kq) : @RS.w (forL f (x :: xs) ρ st) K = @RS.w (f x ρ st) ⟨fun ρ st => @RS.w (forL f xs ρ st) K, K.T, K.N, fun ρ st => @RS.w (forL f xs ρ st) K⟩ := by
  rw [forL]; with_unfolding_all exact RS.wp_nextL ..
/-- a run that is known to end in this -/
theorem R.w_is {α : Type} {r : R α} {a : α} {st : Cel} (h : @R.w α r ⟨fun x s => x = a ∧ s = st⟩) : r = .ok a st := by
  obtain ⟨x, s, e, h1, h2⟩ := R.w_eq h
  rw [e, h1, h2]
end Ev
namespace Ev
open PySem L2
/-! ### values, for simp -/
@[simp high] theorem gE0 {α : Type} (a : α) (l : List α) : (a :: l)[0]? = some a := rfl
@[simp high] theorem gE1 {α : Type} (a : α) (l : List α) (i : Nat) : (a :: l)[i + 1]? = l[i]? := rfl
@[simp] theorem set1_eq (ρ : En) (i : Nat) (v : PV) : set1 ρ i v = ρ.set i (.val v) := rfl
@[simp] theorem assignT_1 (i : Nat) (v : PV) (ρ : En) : assignT [i] v ρ = some (set1 ρ i v) := rfl
@[simp] theorem assignT_2t (i j : Nat) (v w : PV) (ρ : En) : assignT [i, j] (.tup [v, w]) ρ = some (set1 (set1 ρ i v) j w) := rfl
@[simp] theorem assignT_2l (i j : Nat) (v w : PV) (ρ : En) : assignT [i, j] (.lst [v, w]) ρ = some (set1 (set1 ρ i v) j w) := rfl
@[simp] theorem assignT_3t (i j k : Nat) (v w x : PV) (ρ : En) : assignT [i, j, k] (.tup [v, w, x]) ρ = some (set1 (set1 (set1 ρ i v) j w) k x) := rfl
@[simp] theorem assignT_3l (i j k : Nat) (v w x : PV) (ρ : En) : assignT [i, j, k] (.lst [v, w, x]) ρ = some (set1 (set1 (set1 ρ i v) j w) k x) := rfl
@[simp] theorem wipeE_nil (ρ : En) : wipeE ρ [] = ρ := rfl
@[simp] theorem wipeE_cons (ρ : En) (v : Nat) (vs : List Nat) : wipeE ρ (v :: vs) = (wipeE ρ vs).set v .emp := rfl
@[simp] theorem itemsOf_lst (xs : List PV) : itemsOf (.lst xs) = some xs := rfl
@[simp] theorem itemsOf_tup (xs : List PV) : itemsOf (.tup xs) = some xs := rfl
@[simp] theorem itemsOf_rol (xs : List PV) : itemsOf (.rol xs) = some xs := rfl
@[simp] theorem itemsOf_dct (ks : List Key) (xs : List PV) : itemsOf (.dct ks xs) = some (ks.map kP) := rfl
@[simp] theorem starV_tup (xs : List PV) : starV (.tup xs) = some xs := rfl
@[simp] theorem starV_lst (xs : List PV) : starV (.lst xs) = some xs := rfl
@[simp] theorem zipV_tup (xs ys : List PV) : zipV (.tup xs) (.tup ys) = some (.lst ((xs.zip ys).map fun p => .tup [p.1, p.2])) := rfl
@[simp] theorem zipV_lst (xs ys : List PV) : zipV (.lst xs) (.lst ys) = some (.lst ((xs.zip ys).map fun p => .tup [p.1, p.2])) := rfl
@[simp] theorem ixV_lst (st : Cel) (xs : List PV) (i : Int) : ixV st (.lst xs) (.int i) = atP xs i := rfl
@[simp] theorem ixV_tup (st : Cel) (xs : List PV) (i : Int) : ixV st (.tup xs) (.int i) = atP xs i := rfl
@[simp] theorem ixV_rol (st : Cel) (xs : List PV) (i : Int) : ixV st (.rol xs) (.int i) = atP xs i := rfl
@[simp] theorem ixV_cell0 (xs : List PV) (st : Cel) (i : Int) : ixV (.lst xs :: st) (.cell 0) (.int i) = atP xs i := rfl
@[simp] theorem slV_lst (xs : List PV) (lo hi : Option Int) : slV (.lst xs) lo hi = some (.lst (cutP xs lo hi)) := rfl
@[simp] theorem slV_rol (xs : List PV) (lo hi : Option Int) : slV (.rol xs) lo hi = some (.lst (cutP xs lo hi)) := rfl
@[simp] theorem slV_tup (xs : List PV) (lo hi : Option Int) : slV (.tup xs) lo hi = some (.tup (cutP xs lo hi)) := rfl
@[simp] theorem lenV_lst (xs : List PV) : lenV (.lst xs) = some (.int xs.length) := rfl
@[simp] theorem lenV_tup (xs : List PV) : lenV (.tup xs) = some (.int xs.length) := rfl
@[simp] theorem lenV_rol (xs : List PV) : lenV (.rol xs) = some (.int xs.length) := rfl
@[simp] theorem tupleV_lst (xs : List PV) : tupleV (.lst xs) = some (.tup xs) := rfl
@[simp] theorem tupleV_tup (xs : List PV) : tupleV (.tup xs) = some (.tup xs) := rfl
@[simp] theorem listV_lst (xs : List PV) : listV (.lst xs) = some (.lst xs) := rfl
@[simp] theorem listV_tup (xs : List PV) : listV (.tup xs) = some (.lst xs) := rfl
@[simp] theorem negV_int (i : Int) : negV (.int i) = some (.int (-i)) := rfl
@[simp] theorem notV_bl (b : Bool) : notV (.bl b) = some (.bl (!b)) := rfl
@[simp] theorem toIntV_int (i : Int) : toIntV (.int i) = some (.int i) := rfl
@[simp] theorem isaV_int_int (i : Int) : isaV (.int i) .int = some true := rfl
@[simp] theorem isaV_int_bool (i : Int) : isaV (.int i) .bool = some false := rfl
@[simp] theorem isaV_bl_int (i : Bool) : isaV (.bl i) .int = some true := rfl
@[simp] theorem isaV_bl_bool (i : Bool) : isaV (.bl i) .bool = some true := rfl
@[simp] theorem isaV_tup_int (i : List PV) : isaV (.tup i) .int = some false := rfl
@[simp] theorem isaV_tup_tuple (i : List PV) : isaV (.tup i) .tuple = some true := rfl
@[simp] theorem isL_lst (xs : List PV) : isL (.lst xs) = true := rfl
theorem rng1V_int {i : Int} (h : 0 ≤ i) (h2 : i < 1000000000) : rng1V (.int i) = some (.lst (rngP 0 i)) := by
  unfold rng1V rOk
  simp
  omega
@[simp] theorem setCel_0 (xs : List PV) (st : Cel) (x : PV) (j : Int) : setCel (.lst xs :: st) x (.cell 0) (.int j) = (ixP xs.length j).map fun n => .lst (xs.set n x) :: st := by
  show (match ixP xs.length j with
      | some n => some ((PV.lst xs :: st).set 0 (.lst (xs.set n x)))
      | none => none) = _
  cases ixP xs.length j <;> rfl
def zs (xs : List Int) : List PV := xs.map PV.int
@[simp] theorem zs_nil : zs [] = [] := rfl
@[simp] theorem zs_cons (x : Int) (xs : List Int) : zs (x :: xs) = .int x :: zs xs := rfl
@[simp] theorem zs_length (xs : List Int) : (zs xs).length = xs.length := by simp [zs]
theorem dataL_zs (xs : List Int) : PV.dataL (zs xs) = some (xs.map PyData.int) := by
  induction xs with
  | nil => rfl
  | cons x xs ih => rw [zs_cons, PV.dataL, ih]; rfl
theorem canLay_ints (xs : List Int) : PyData.canLayAll0 (xs.map PyData.int) = true := by
  induction xs with
  | nil => simp [PyData.canLayAll0]
  | cons x xs ih => simp [PyData.canLayAll0, PyData.canLay0, ih]
theorem depth_ints (xs : List Int) : PyData.depthAll (xs.map PyData.int) = 0 := by
  induction xs with
  | nil => simp [PyData.depthAll]
  | cons x xs ih => simp [PyData.depthAll, PyData.depth, ih]
theorem shaped_list_ints (xs : List Int) : SeqAt.shaped (.list (xs.map PyData.int)) = true := by
  simp [SeqAt.shaped, PyData.canLay0, PyData.depth, canLay_ints, depth_ints]
@[simp] theorem eqV_int (i j : Int) : eqV (.int i) (.int j) = some (i == j) := by
  simp [eqV, scalE, eqD, PV.data, SeqAt.shaped, PyData.canLay0, PyData.depth, PyData.eqv]
@[simp] theorem eqV_str (i j : Str) : eqV (.str i) (.str j) = some (decide (i = j)) := rfl
@[simp] theorem eqV_bl (i j : Bool) : eqV (.bl i) (.bl j) = some (i == j) := by
  simp [eqV, scalE, eqD, PV.data, SeqAt.shaped, PyData.canLay0, PyData.depth, PyData.eqv]
theorem eqv_ints : ∀ xs ys : List Int, PyData.eqvAll (xs.map PyData.int) (ys.map PyData.int) = decide (xs = ys)
  | [], [] => by simp [PyData.eqvAll]
  | [], _ :: _ => by simp [PyData.eqvAll]
  | _ :: _, [] => by simp [PyData.eqvAll]
  | x :: xs, y :: ys => by
    simp only [List.map_cons, PyData.eqvAll, PyData.eqv, eqv_ints xs ys]
    by_cases h : x = y
    · subst h; simp
    · simp [h]
@[simp] theorem eqV_zl (xs ys : List Int) : eqV (.lst (zs xs)) (.lst (zs ys)) = some (decide (xs = ys)) := by
  simp [eqV, scalE, eqD, PV.data, dataL_zs, shaped_list_ints, PyData.eqv, eqv_ints]
@[simp] theorem eqV_zl0 (xs : List Int) : eqV (.lst (zs xs)) (.lst []) = some (decide (xs = [])) := eqV_zl xs []
@[simp] theorem eqV_nil : eqV (.lst []) (.lst []) = some true := eqV_zl [] []
theorem shaped_tup_ints (xs : List Int) : SeqAt.shaped (.tuple (xs.map PyData.int)) = true := by
  simp [SeqAt.shaped, PyData.canLay0, PyData.depth, canLay_ints, depth_ints]
@[simp] theorem eqV_zt (xs ys : List Int) : eqV (.tup (zs xs)) (.tup (zs ys)) = some (decide (xs = ys)) := by
  simp [eqV, scalE, eqD, PV.data, dataL_zs, shaped_tup_ints, PyData.eqv, eqv_ints]
theorem szOk_of {n : Nat} (h : n ≤ 10000) : szOk n = true := by
  unfold szOk
  rw [decide_eq_true_eq, sizeLine_eq]
  omega
@[simp] theorem szOk_0 : szOk 0 = true := szOk_of (by omega)
@[simp] theorem szOk_1 : szOk 1 = true := szOk_of (by omega)
@[simp] theorem szOk_2 : szOk 2 = true := szOk_of (by omega)
@[simp] theorem szOk_3 : szOk 3 = true := szOk_of (by omega)
@[simp] theorem szOk_4 : szOk 4 = true := szOk_of (by omega)
@[simp] theorem szOk_5 : szOk 5 = true := szOk_of (by omega)
@[simp] theorem szOk_6 : szOk 6 = true := szOk_of (by omega)
@[simp] theorem szOk_7 : szOk 7 = true := szOk_of (by omega)
@[simp] theorem szOk_8 : szOk 8 = true := szOk_of (by omega)
/-! the values of operators on ints -/
@[simp] theorem bin_add (i j : Int) : binV .add (.int i) (.int j) = some (.int (i + j)) := rfl
@[simp] theorem bin_sub (i j : Int) : binV .sub (.int i) (.int j) = some (.int (i - j)) := rfl
theorem bin_mul {i j : Int} (h : (-(2 ^ 64) < i ∧ i < 2 ^ 64) ∨ (-(2 ^ 64) < j ∧ j < 2 ^ 64)) : binV .mul (.int i) (.int j) = some (.int (i * j)) := by
  show (if ((-(2 ^ 64) < i && i < 2 ^ 64) || (-(2 ^ 64) < j && j < 2 ^ 64)) = true then some (PV.int (i * j)) else none) = _
  rw [if_pos (by simpa using h)]
theorem bin_fdiv {i j : Int} (h : 1 ≤ j) (h2 : j < 1000000000) : binV .fdiv (.int i) (.int j) = some (.int (i / j)) := by
  show (if j ≠ 0 ∧ j.natAbs < 1073741824 then some (PV.int (i.fdiv j)) else none) = _
  rw [if_pos ⟨by omega, by omega⟩, Int.fdiv_eq_ediv_of_nonneg _ (by omega)]
theorem bin_mod {i j : Int} (h : 1 ≤ j) : binV .mod (.int i) (.int j) = some (.int (i % j)) := by
  show (if j ≠ 0 then some (PV.int (i.fmod j)) else none) = _
  rw [if_pos (by omega), Int.fmod_eq_emod_of_nonneg _ (by omega)]
theorem bin_pow {i : Int} {k : Nat} (h : i.natAbs < 2 ^ 64) (hk : k ≤ 1000) : binV .pow (.int i) (.int (k : Nat)) = some (.int (i ^ k)) := by
  show (if 0 ≤ (k : Int) ∧ (k : Int) ≤ 1000000 ∧ i.natAbs < 2 ^ 64 then some (PV.int (i ^ (k : Int).toNat)) else none) = _
  rw [if_pos ⟨by omega, by omega, h⟩]
  rfl
@[simp] theorem cmp_lt (i j : Int) : cmpV .lt (.int i) (.int j) = some (decide (i < j)) := rfl
@[simp] theorem cmp_le (i j : Int) : cmpV .le (.int i) (.int j) = some (decide (i ≤ j)) := rfl
@[simp] theorem cmp_gt (i j : Int) : cmpV .gt (.int i) (.int j) = some (decide (j < i)) := rfl
@[simp] theorem cmp_ge (i j : Int) : cmpV .ge (.int i) (.int j) = some (decide (j ≤ i)) := rfl
@[simp] theorem cmp_eq (a b : PV) : cmpV .eq a b = eqV a b := by cases a <;> cases b <;> rfl
@[simp] theorem cmp_ne (a b : PV) : cmpV .ne a b = (eqV a b).map (!·) := by cases a <;> cases b <;> rfl
theorem atP_nat {xs : List PV} {i : Nat} (h : i < xs.length) : atP xs (i : Int) = xs[i]? := by
  show L2.atI _ _ = _
  unfold L2.atI L2.ixN
  rw [if_pos (by omega), if_pos (by omega)]
  simp
theorem atP_mem {xs : List PV} {i : Int} (h0 : 0 ≤ i) (h : i < xs.length) : ∃ x, atP xs i = some x ∧ x ∈ xs := by
  obtain ⟨k, rfl⟩ := Int.eq_ofNat_of_zero_le h0
  have hk : k < xs.length := by omega
  exact ⟨xs[k], by rw [atP_nat hk]; exact List.getElem?_eq_getElem hk, List.getElem_mem hk⟩
theorem ixP_nat {n i : Nat} (h : i < n) : ixP n (i : Int) = some i := by
  show L2.ixN _ _ = _
  unfold L2.ixN
  rw [if_pos (by omega), if_pos (by omega)]
  simp
@[simp] theorem atP_0 (x0 : PV) (l : List PV) : atP (x0 :: l) 0 = some x0 := atP_nat (i := 0) (by simp only [List.length_cons]; omega)
@[simp] theorem atP_1 (x0 x1 : PV) (l : List PV) : atP (x0 :: x1 :: l) 1 = some x1 := atP_nat (i := 1) (by simp only [List.length_cons]; omega)
@[simp] theorem atP_2 (x0 x1 x2 : PV) (l : List PV) : atP (x0 :: x1 :: x2 :: l) 2 = some x2 := atP_nat (i := 2) (by simp only [List.length_cons]; omega)
@[simp] theorem atP_3 (x0 x1 x2 x3 : PV) (l : List PV) : atP (x0 :: x1 :: x2 :: x3 :: l) 3 = some x3 := atP_nat (i := 3) (by simp only [List.length_cons]; omega)
@[simp] theorem atP_4 (x0 x1 x2 x3 x4 : PV) (l : List PV) : atP (x0 :: x1 :: x2 :: x3 :: x4 :: l) 4 = some x4 := atP_nat (i := 4) (by simp only [List.length_cons]; omega)
@[simp] theorem atP_5 (x0 x1 x2 x3 x4 x5 : PV) (l : List PV) : atP (x0 :: x1 :: x2 :: x3 :: x4 :: x5 :: l) 5 = some x5 := atP_nat (i := 5) (by simp only [List.length_cons]; omega)
@[simp] theorem atP_6 (x0 x1 x2 x3 x4 x5 x6 : PV) (l : List PV) : atP (x0 :: x1 :: x2 :: x3 :: x4 :: x5 :: x6 :: l) 6 = some x6 := atP_nat (i := 6) (by simp only [List.length_cons]; omega)
@[simp] theorem atP_7 (x0 x1 x2 x3 x4 x5 x6 x7 : PV) (l : List PV) : atP (x0 :: x1 :: x2 :: x3 :: x4 :: x5 :: x6 :: x7 :: l) 7 = some x7 := atP_nat (i := 7) (by simp only [List.length_cons]; omega)
@[simp] theorem atP_8 (x0 x1 x2 x3 x4 x5 x6 x7 x8 : PV) (l : List PV) : atP (x0 :: x1 :: x2 :: x3 :: x4 :: x5 :: x6 :: x7 :: x8 :: l) 8 = some x8 := atP_nat (i := 8) (by simp only [List.length_cons]; omega)
theorem ixP_0 {n : Nat} (h : 0 < n) : ixP n 0 = some 0 := ixP_nat h
theorem ixP_1 {n : Nat} (h : 1 < n) : ixP n 1 = some 1 := ixP_nat h
theorem ixP_2 {n : Nat} (h : 2 < n) : ixP n 2 = some 2 := ixP_nat h
theorem ixP_3 {n : Nat} (h : 3 < n) : ixP n 3 = some 3 := ixP_nat h
theorem ixP_4 {n : Nat} (h : 4 < n) : ixP n 4 = some 4 := ixP_nat h
@[simp] theorem ixP4_0 : ixP 4 0 = some 0 := rfl
@[simp] theorem ixP4_1 : ixP 4 1 = some 1 := rfl
@[simp] theorem ixP4_2 : ixP 4 2 = some 2 := rfl
@[simp] theorem ixP4_3 : ixP 4 3 = some 3 := rfl
theorem bin_pow3 {i : Int} (h1 : -1000000000000000000 < i) (h2 : i < 1000000000000000000) : binV .pow (.int i) (.int 3) = some (.int (i ^ 3)) := bin_pow (k := 3) (by omega) (by omega)
theorem bin_pow5 {i : Int} (h1 : -1000000000000000000 < i) (h2 : i < 1000000000000000000) : binV .pow (.int i) (.int 5) = some (.int (i ^ 5)) := bin_pow (k := 5) (by omega) (by omega)
@[simp] theorem bin_pow18 : binV .pow (.int 10) (.int 18) = some (.int 1000000000000000000) := by
  rw [show (18 : Int) = ((18 : Nat) : Int) from rfl, bin_pow (by omega) (by omega)]; rfl
theorem bin_mulc {i j : Int} (h1 : -1000000000000000000 < i) (h2 : i < 1000000000000000000) : binV .mul (.int i) (.int j) = some (.int (i * j)) := bin_mul (.inl ⟨by omega, by omega⟩)
theorem bin_cat {xs ys : List PV} (h : szOk (xs.length + ys.length) = true) : binV .add (.lst xs) (.lst ys) = some (.lst (xs ++ ys)) := if_pos h
theorem bin_catT {xs ys : List PV} (h : szOk (xs.length + ys.length) = true) : binV .add (.tup xs) (.tup ys) = some (.tup (xs ++ ys)) := if_pos h
end Ev
namespace Ev
open PySem L2
/-! ### repr of small data -/
mutual
def PV.sm : PV → Bool
  | .non => true
  | .bl _ => true
  | .int i => decide (i.natAbs ≤ 999999999999)
  | .str s => s.cps.toList.all fun c => decide (c < 16 ^ 8)
  | .tup xs => PV.smL xs
  | .lst xs => PV.smL xs
  | _ => false
def PV.smL : List PV → Bool
  | [] => true
  | x :: xs => x.sm && PV.smL xs
end
mutual
def PV.bk : PV → Nat
  | .str s => s.cps.size
  | .tup xs => PV.bkL xs
  | .lst xs => PV.bkL xs
  | _ => 0
def PV.bkL : List PV → Nat
  | [] => 0
  | x :: xs => x.bk + 1 + PV.bkL xs
end
mutual
def PV.dp : PV → Nat
  | .tup xs => PV.dpL xs + 1
  | .lst xs => PV.dpL xs + 1
  | _ => 0
def PV.dpL : List PV → Nat
  | [] => 0
  | x :: xs => max x.dp (PV.dpL xs)
end
theorem log2_small {n : Nat} (h : n ≤ 999999999999) : n.log2 < 1920 := by
  by_cases h0 : n = 0
  · subst h0; decide
  · rw [Nat.log2_lt h0]
    exact Nat.lt_of_le_of_lt h (by
      calc 999999999999 < 2 ^ 40 := by decide
        _ ≤ 2 ^ 1920 := Nat.pow_le_pow_right (by decide) (by decide))
mutual
theorem PV.sm_data : ∀ {a : PV}, a.sm = true → ∃ d, a.data = some d ∧ d.leavesShort 13 = true ∧ d.showable = true ∧ d.hasDict = false ∧ d.bulk = a.bk ∧ d.depth = a.dp
  | .non, _ => ⟨_, rfl, rfl, rfl, rfl, rfl, rfl⟩
  | .bl _, _ => ⟨_, rfl, rfl, rfl, rfl, rfl, rfl⟩
  | .int i, h => by
    have h : i.natAbs ≤ 999999999999 := of_decide_eq_true h
    refine ⟨_, rfl, ?_, ?_, rfl, rfl, rfl⟩
    · show decide ((PyData.shown (.int i)).length ≤ 13) = true
      exact decide_eq_true (PyData.shown_int_le2 (by omega) (by omega))
    · show decide (i.natAbs.log2 < 1920) = true
      exact decide_eq_true (log2_small h)
  | .str s, h => ⟨_, rfl, h, rfl, rfl, rfl, rfl⟩
  | .tup xs, h => by
    obtain ⟨ds, e, h1, h2, h3, h4, h5⟩ := PV.smL_data (xs := xs) h
    refine ⟨.tuple ds, by rw [PV.data, e]; rfl, h1, h2, h3, h4, ?_⟩
    show PyData.depth _ = PV.dpL xs + 1
    rw [PyData.depth, h5]
  | .lst xs, h => by
    obtain ⟨ds, e, h1, h2, h3, h4, h5⟩ := PV.smL_data (xs := xs) h
    refine ⟨.list ds, by rw [PV.data, e]; rfl, h1, h2, h3, h4, ?_⟩
    show PyData.depth _ = PV.dpL xs + 1
    rw [PyData.depth, h5]
  | .rol _, h => by cases h
  | .cell _, h => by cases h
  | .dct _ _, h => by cases h
theorem PV.smL_data : ∀ {xs : List PV}, PV.smL xs = true → ∃ ds, PV.dataL xs = some ds ∧ PyData.leavesShortAll 13 ds = true ∧ PyData.showableAll ds = true ∧ PyData.hasDictAll ds = false ∧ PyData.bulkAll ds = PV.bkL xs ∧ PyData.depthAll ds = PV.dpL xs
  | [], _ => ⟨_, rfl, rfl, rfl, rfl, rfl, rfl⟩
  | x :: xs, h => by
    rw [PV.smL, Bool.and_eq_true] at h
    obtain ⟨d, e, h1, h2, h3, h4, h5⟩ := PV.sm_data h.1
    obtain ⟨ds, e', h1', h2', h3', h4', h5'⟩ := PV.smL_data h.2
    refine ⟨d :: ds, by rw [PV.dataL, e, e'], ?_, ?_, ?_, ?_, ?_⟩
    · rw [PyData.leavesShortAll, h1, h1']; rfl
    · rw [PyData.showableAll, h2, h2']; rfl
    · rw [PyData.hasDictAll, h3, h3']; rfl
    · rw [PyData.bulkAll, h4, h4', PV.bkL]
    · rw [PyData.depthAll, h5, h5', PV.dpL]
end
theorem reprV_tup {xs : List PV} (h : PV.smL xs = true) (hb : PV.bkL xs ≤ 1000000) (hd : PV.dpL xs ≤ 50) : ∃ s, reprV (.tup xs) = some (.str s) := by
  obtain ⟨ds, e, h1, h2, h3, h4, h5⟩ := PV.smL_data h
  have ed : PV.data (.tup xs) = some (.tuple ds) := by rw [PV.data, e]; rfl
  have hs : (PyData.tuple ds).shown.length ≤ sizeLine := PyData.shown_fits_bulk (B := 13) (by omega) (by omega) h1 (by show PyData.bulkAll ds ≤ _; rw [h4]; omega)
  refine ⟨(PyData.tuple ds).shown, ?_⟩
  unfold reprV
  rw [ed]
  show (if _ then _ else _) = _
  rw [if_pos]
  have hdp : (PyData.tuple ds).depth ≤ 60 := by rw [PyData.depth, h5]; omega
  simp only [Bool.and_eq_true, decide_eq_true_eq, Bool.not_eq_true']
  exact ⟨⟨⟨⟨rfl, h2⟩, h3⟩, hdp⟩, decide_eq_true hs⟩
end Ev
namespace K05
open PySem L2 Ev
def topS (i : Nat) : Stmt := PySem.Challenge.pw_ownrights_k05_whole_values_and_sums.main.body.getD i (.Pass ⟨0, 0, 0, 0⟩)
def b_added : Ss :=
  (.cons (.asg [2] (.var 0))
  (.cons (.for_ [3] (.var 1)
    (.cons (.asg [2] (.tupleOf (.comp (.bin .add (.var 4) (.var 5)) [4, 5] (.zip2 (.var 2) (.var 3)) .nil [4, 5])))
    .nil))
  (.cons (.ret (.var 2))
  .nil)))
def D_added : DefD := { nm := "added", ps := ["one"], pv := some "others", N := ["one", "others", "found", "other", "here", "there"], fr := false, st := topS 1, body := b_added }
def b_zero_sum : Ss :=
  (.cons (.ret (.bin .mul (.tup (.cons (.int 0) .nil)) (.var 0)))
  .nil)
def D_zero_sum : DefD := { nm := "zero_sum", ps := ["many"], pv := none, N := ["many"], fr := false, st := topS 2, body := b_zero_sum }
def b_is_integer : Ss :=
  (.cons (.ret (.and (.isa (.var 0) .int) (.not (.isa (.var 0) .bool))))
  .nil)
def D_is_integer : DefD := { nm := "is_integer", ps := ["thing"], pv := none, N := ["thing"], fr := false, st := topS 4, body := b_is_integer }
def b_names_of : Ss :=
  (.cons (.ret (.comp (.ix (.var 1) (.int 0)) [1] (.var 0) .nil [1]))
  .nil)
def D_names_of : DefD := { nm := "names_of", ps := ["items"], pv := none, N := ["items", "own"], fr := false, st := topS 6, body := b_names_of }
def b_value_in : Ss :=
  (.cons (.if_ (.call 2 (.cons (.var 2) .nil))
    (.cons (.ret (.var 2))
    .nil)
    .nil)
  (.cons (.ustar [3, 4] 7 (.var 2))
  (.cons (.if_ (.cmp .eq (.var 3) (.str "item"))
    (.cons (.ret (.ix (.var 1) (.indexOf (.call 3 (.cons (.var 0) .nil)) (.var 4))))
    .nil)
    .nil)
  (.cons (.par [5, 6] (.cons (.call 4 (.cons (.var 0) (.cons (.var 1) (.cons (.var 4) .nil)))) (.cons (.call 4 (.cons (.var 0) (.cons (.var 1) (.cons (.ix (.var 7) (.int 0)) .nil)))) .nil)))
  (.cons (.if_ (.cmp .eq (.var 3) (.str "+"))
    (.cons (.ret (.bin .add (.var 5) (.var 6)))
    .nil)
    .nil)
  (.cons (.ret (.ite (.cmp .eq (.var 3) (.str "-")) (.bin .sub (.var 5) (.var 6)) (.bin .mul (.var 5) (.var 6))))
  .nil))))))
def D_value_in : DefD := { nm := "value_in", ps := ["items", "state", "count"], pv := none, N := ["items", "state", "count", "word", "first", "one", "other", "rest"], fr := false, st := topS 8, body := b_value_in }
def b_holds_in : Ss :=
  (.cons (.ustar [3, 4] 7 (.var 2))
  (.cons (.if_ (.cmp .eq (.var 3) (.str "not"))
    (.cons (.ret (.not (.call 5 (.cons (.var 0) (.cons (.var 1) (.cons (.var 4) .nil))))))
    .nil)
    .nil)
  (.cons (.if_ (.cmp .eq (.var 3) (.str "and"))
    (.cons (.ret (.and (.call 5 (.cons (.var 0) (.cons (.var 1) (.cons (.var 4) .nil)))) (.call 5 (.cons (.var 0) (.cons (.var 1) (.cons (.ix (.var 7) (.int 0)) .nil))))))
    .nil)
    .nil)
  (.cons (.if_ (.cmp .eq (.var 3) (.str "or"))
    (.cons (.ret (.or (.call 5 (.cons (.var 0) (.cons (.var 1) (.cons (.var 4) .nil)))) (.call 5 (.cons (.var 0) (.cons (.var 1) (.cons (.ix (.var 7) (.int 0)) .nil))))))
    .nil)
    .nil)
  (.cons (.par [5, 6] (.cons (.call 4 (.cons (.var 0) (.cons (.var 1) (.cons (.var 4) .nil)))) (.cons (.call 4 (.cons (.var 0) (.cons (.var 1) (.cons (.ix (.var 7) (.int 0)) .nil)))) .nil)))
  (.cons (.ret (.ite (.cmp .eq (.var 3) (.str "=")) (.cmp .eq (.var 5) (.var 6)) (.cmp .lt (.var 5) (.var 6))))
  .nil))))))
def D_holds_in : DefD := { nm := "holds_in", ps := ["items", "state", "condition"], pv := none, N := ["items", "state", "condition", "word", "first", "one", "other", "rest"], fr := false, st := topS 9, body := b_holds_in }
def b__law_reader : Ss :=
  (.cons (.ret (.lst (.cons (.sl (.var 0) .nil (.cons (.int 63) .nil)) (.cons (.int 0) (.cons (.int 0) (.cons (.int 0) .nil))))))
  .nil)
def D__law_reader : DefD := { nm := "_law_reader", ps := ["_law_script"], pv := none, N := ["_law_script"], fr := true, st := topS 11, body := b__law_reader }
def b__law_draw : Ss :=
  (.cons (.setI (.var 0) (.int 3) (.bin .add (.ix (.var 0) (.int 3)) (.int 1)))
  (.cons (.if_ (.cmp .gt (.ix (.var 0) (.int 2)) (.int 0))
    (.cons (.asg [4] (.bin .mod (.toInt (.ix (.var 0) (.int 2))) (.var 1)))
    (.cons (.setI (.var 0) (.int 2) (.bin .fdiv (.ix (.var 0) (.int 2)) (.var 1)))
    (.cons (.ret (.var 4))
    .nil)))
    .nil)
  (.cons (.asg [2] (.int 47))
  (.cons (.if_ (.cmp .ne (.ix (.var 0) (.int 0)) (.lst .nil))
    (.cons (.asg [2] (.ix (.ix (.var 0) (.int 0)) (.bin .mod (.toInt (.ix (.var 0) (.int 1))) (.len (.ix (.var 0) (.int 0))))))
    .nil)
    .nil)
  (.cons (.setI (.var 0) (.int 1) (.bin .add (.ix (.var 0) (.int 1)) (.int 1)))
  (.cons (.if_ (.and (.cmp .ge (.var 2) (.bin .pow (.int 10) (.int 18))) (.cmp .le (.ix (.var 0) (.int 1)) (.len (.ix (.var 0) (.int 0)))))
    (.cons (.setI (.var 0) (.int 2) (.bin .fdiv (.var 2) (.var 1)))
    (.cons (.ret (.bin .mod (.toInt (.var 2)) (.var 1)))
    .nil))
    .nil)
  (.cons (.asg [3] (.bin .mod (.toInt (.bin .pow (.bin .add (.bin .add (.bin .mod (.toInt (.var 2)) (.int 2147483543)) (.bin .mul (.int 7607) (.ix (.var 0) (.int 3)))) (.int 11)) (.int 5))) (.int 2147483629)))
  (.cons (.ret (.bin .mod (.toInt (.bin .fdiv (.bin .mod (.toInt (.bin .pow (.bin .add (.var 3) (.bin .mul (.int 95003) (.ix (.var 0) (.int 3)))) (.int 5))) (.int 2147483647)) (.int 64))) (.var 1)))
  .nil))))))))
def D__law_draw : DefD := { nm := "_law_draw", ps := ["_law_reader_here", "_law_many"], pv := none, N := ["_law_reader_here", "_law_many", "_law_cell", "_law_once", "_law_found"], fr := false, st := topS 12, body := b__law_draw }
def b__law_leaf : Ss :=
  (.cons (.if_ (.cmp .eq (.call 7 (.cons (.var 0) (.cons (.int 3) .nil))) (.int 0))
    (.cons (.ret (.ix (.lst (.cons (.int 0) (.cons (.int 1) (.cons (.int 2) (.cons (.neg (.int 1)) (.cons (.int 3) (.cons (.neg (.int 7)) (.cons (.int 12) (.cons (.int 1) .nil))))))))) (.call 7 (.cons (.var 0) (.cons (.int 8) .nil)))))
    .nil)
    .nil)
  (.cons (.ret (.tup (.cons (.str "item") (.cons (.ix (.var 1) (.call 7 (.cons (.var 0) (.cons (.len (.var 1)) .nil)))) .nil))))
  .nil))
def D__law_leaf : DefD := { nm := "_law_leaf", ps := ["_law_reader_here", "_law_slots_here"], pv := none, N := ["_law_reader_here", "_law_slots_here"], fr := false, st := topS 13, body := b__law_leaf }
def b__law_number : Ss :=
  (.cons (.asg [3] (.call 7 (.cons (.var 0) (.cons (.int 4) .nil))))
  (.cons (.if_ (.or (.cmp .lt (.var 2) (.int 1)) (.cmp .eq (.var 3) (.int 0)))
    (.cons (.ret (.call 8 (.cons (.var 0) (.cons (.var 1) .nil))))
    .nil)
    .nil)
  (.cons (.asg [4] (.call 9 (.cons (.var 0) (.cons (.var 1) (.cons (.bin .sub (.var 2) (.int 1)) .nil)))))
  (.cons (.ret (.tup (.cons (.ix (.lst (.cons (.str "+") (.cons (.str "-") (.cons (.str "*") .nil)))) (.bin .sub (.var 3) (.int 1))) (.cons (.var 4) (.cons (.call 9 (.cons (.var 0) (.cons (.var 1) (.cons (.bin .sub (.var 2) (.int 1)) .nil)))) .nil)))))
  .nil))))
def D__law_number : DefD := { nm := "_law_number", ps := ["_law_reader_here", "_law_slots_here", "_law_deep"], pv := none, N := ["_law_reader_here", "_law_slots_here", "_law_deep", "_law_way", "_law_one"], fr := false, st := topS 14, body := b__law_number }
def b__law_condition : Ss :=
  (.cons (.asg [3] (.call 7 (.cons (.var 0) (.cons (.int 6) .nil))))
  (.cons (.if_ (.or (.cmp .lt (.var 2) (.int 1)) (.cmp .lt (.var 3) (.int 2)))
    (.cons (.ret (.tup (.cons (.ix (.lst (.cons (.str "=") (.cons (.str "<") .nil))) (.bin .fdiv (.var 3) (.int 3))) (.cons (.call 8 (.cons (.var 0) (.cons (.var 1) .nil))) (.cons (.call 9 (.cons (.var 0) (.cons (.var 1) (.cons (.bin .sub (.var 2) (.int 1)) .nil)))) .nil)))))
    .nil)
    .nil)
  (.cons (.asg [4] (.call 10 (.cons (.var 0) (.cons (.var 1) (.cons (.bin .sub (.var 2) (.int 1)) .nil)))))
  (.cons (.if_ (.cmp .lt (.var 3) (.int 4))
    (.cons (.ret (.tup (.cons (.str "not") (.cons (.var 4) .nil))))
    .nil)
    .nil)
  (.cons (.ret (.tup (.cons (.ix (.lst (.cons (.str "and") (.cons (.str "or") .nil))) (.bin .sub (.var 3) (.int 4))) (.cons (.var 4) (.cons (.call 10 (.cons (.var 0) (.cons (.var 1) (.cons (.int 0) .nil)))) .nil)))))
  .nil)))))
def D__law_condition : DefD := { nm := "_law_condition", ps := ["_law_reader_here", "_law_slots_here", "_law_deep"], pv := none, N := ["_law_reader_here", "_law_slots_here", "_law_deep", "_law_way", "_law_one"], fr := false, st := topS 15, body := b__law_condition }
def b__law_random_items : Ss :=
  (.cons (.asgO 1 (.lst .nil))
  (.cons (.for_ [2] (.ix (.lst (.cons (.tup (.cons (.str "a") .nil)) (.cons (.tup (.cons (.str "coins") .nil)) (.cons (.tup (.cons (.str "item") (.cons (.str "not") .nil))) (.cons (.tup (.cons (.str "cards") (.cons (.str "coins") .nil))) (.cons (.tup (.cons (.str "zzzzzzzz") .nil)) .nil)))))) (.call 7 (.cons (.var 0) (.cons (.int 5) .nil))))
    (.cons (.asg [3] (.bin .sub (.call 7 (.cons (.var 0) (.cons (.int 4) .nil))) (.int 2)))
    (.cons (.app 1 (.tup (.cons (.var 2) (.cons (.var 3) (.cons (.bin .add (.var 3) (.call 7 (.cons (.var 0) (.cons (.int 5) .nil)))) .nil)))))
    .nil)))
  (.cons (.ret (.tupleOf (.bor 1)))
  .nil)))
def D__law_random_items : DefD := { nm := "_law_random_items", ps := ["_law_reader_here"], pv := none, N := ["_law_reader_here", "_law_found", "_law_slot", "_law_low"], fr := false, st := topS 16, body := b__law_random_items }
def b__law_slots : Ss :=
  (.cons (.ret (.tupleOf (.comp (.ix (.var 1) (.int 0)) [1] (.var 0) .nil [1])))
  .nil)
def D__law_slots : DefD := { nm := "_law_slots", ps := ["_law_entries"], pv := none, N := ["_law_entries", "_law_entry"], fr := false, st := topS 17, body := b__law_slots }
def b__law_random_sum : Ss :=
  (.cons (.ret (.tupleOf (.comp (.ix (.lst (.cons (.int 0) (.cons (.int 1) (.cons (.neg (.int 1)) (.cons (.int 2) (.cons (.neg (.int 2)) (.cons (.int 12) (.cons (.neg (.int 12)) .nil)))))))) (.call 7 (.cons (.var 0) (.cons (.int 7) .nil)))) [2] (.rng1 (.var 1)) .nil [2])))
  .nil)
def D__law_random_sum : DefD := { nm := "_law_random_sum", ps := ["_law_reader_here", "_law_many"], pv := none, N := ["_law_reader_here", "_law_many", "_law_k"], fr := false, st := topS 18, body := b__law_random_sum }
def b__law_fixed_stores : Ss :=
  (.cons (.asg [0] (.tup (.cons (.tup (.cons (.tup (.cons (.str "coins") (.cons (.int 0) (.cons (.int 4) .nil)))) .nil)) (.cons (.tup .nil) (.cons (.tup (.cons (.tup (.cons (.str "ann") (.cons (.tup (.cons (.tup (.cons (.str "put") (.cons (.tup (.cons (.int 1) .nil)) .nil))) (.cons (.tup (.cons (.str "take") (.cons (.tup (.cons (.neg (.int 1)) .nil)) .nil))) .nil))) .nil))) (.cons (.tup (.cons (.str "bob") (.cons (.tup (.cons (.tup (.cons (.str "take") (.cons (.tup (.cons (.neg (.int 1)) .nil)) .nil))) .nil)) .nil))) .nil))) .nil)))))
  (.cons (.asg [1] (.tup (.cons (.tup (.cons (.str "<") (.cons (.tup (.cons (.str "item") (.cons (.str "a") .nil))) (.cons (.tup (.cons (.str "item") (.cons (.str "b") .nil))) .nil)))) (.cons (.tup (.cons (.str "not") (.cons (.tup (.cons (.str "=") (.cons (.tup (.cons (.str "*") (.cons (.tup (.cons (.str "item") (.cons (.str "a") .nil))) (.cons (.int 2) .nil)))) (.cons (.int 3) .nil)))) .nil))) .nil))))
  (.cons (.asg [2] (.tup (.cons (.tup (.cons (.str "x") (.cons (.tup (.cons (.tup (.cons (.str "d") (.cons (.tup (.cons (.int 1) (.cons (.neg (.int 1)) .nil))) .nil))) (.cons (.tup (.cons (.str "e") (.cons (.tup (.cons (.int 0) (.cons (.int 2) .nil))) .nil))) .nil))) .nil))) (.cons (.tup (.cons (.str "y") (.cons (.tup .nil) .nil))) (.cons (.tup (.cons (.str "z") (.cons (.tup (.cons (.tup (.cons (.str "d") (.cons (.tup (.cons (.int 0) (.cons (.int 0) .nil))) .nil))) .nil)) .nil))) .nil)))))
  (.cons (.asg [3] (.tup (.cons (.tup (.cons (.tup (.cons (.str "a") (.cons (.neg (.int 1)) (.cons (.int 2) .nil)))) (.cons (.tup (.cons (.str "b") (.cons (.int 0) (.cons (.int 3) .nil)))) .nil))) (.cons (.var 1) (.cons (.var 2) .nil)))))
  (.cons (.asg [4] (.tup (.cons (.tup (.cons (.tup (.cons (.str "hand") (.cons (.neg (.int 12)) (.cons (.neg (.int 10)) .nil)))) (.cons (.tup (.cons (.str "rule") (.cons (.int 12) (.cons (.int 12) .nil)))) .nil))) (.cons (.tup (.cons (.tup (.cons (.str "=") (.cons (.int 1) (.cons (.int 1) .nil)))) .nil)) (.cons (.tup (.cons (.tup (.cons (.str "deed") (.cons (.tup (.cons (.tup (.cons (.str "item") (.cons (.tup (.cons (.neg (.int 12)) (.cons (.int 0) .nil))) .nil))) (.cons (.tup (.cons (.str "rule") (.cons (.tup (.cons (.int 12) (.cons (.int 1) .nil))) .nil))) .nil))) .nil))) .nil)) .nil)))))
  (.cons (.ret (.lst (.cons (.var 0) (.cons (.tup (.cons (.ix (.var 0) (.int 0)) (.cons (.tup (.cons (.tup (.cons (.str "<") (.cons (.tup (.cons (.str "item") (.cons (.str "coins") .nil))) (.cons (.int 4) .nil)))) .nil)) (.cons (.sl (.ix (.var 0) (.int 2)) .nil (.cons (.int 1) .nil)) .nil)))) (.cons (.var 3) (.cons (.var 4) (.cons (.tup (.cons (.tup (.cons (.tup (.cons (.str "a") (.cons (.int 0) (.cons (.int 0) .nil)))) .nil)) (.cons (.tup .nil) (.cons (.tup (.cons (.tup (.cons (.str "a") (.cons (.tup .nil) .nil))) .nil)) .nil)))) .nil)))))))
  .nil))))))
def D__law_fixed_stores : DefD := { nm := "_law_fixed_stores", ps := [], pv := none, N := ["_law_till", "_law_rules", "_law_hands_now", "_law_two", "_law_odd"], fr := false, st := topS 19, body := b__law_fixed_stores }
def b__law_numbers_right : Ss :=
  (.cons (.par [9, 10, 11] (.cons (.call 4 (.cons (.var 0) (.cons (.var 1) (.cons (.var 2) .nil)))) (.cons (.call 4 (.cons (.var 0) (.cons (.var 1) (.cons (.var 3) .nil)))) (.cons (.call 5 (.cons (.var 0) (.cons (.var 1) (.cons (.var 4) .nil)))) .nil))))
  (.cons (.asg [5] (.comp (.var 12) [12] (.tup (.cons (.var 9) (.cons (.var 10) .nil))) (.cons (.or (.not (.isa (.var 12) .int)) (.isa (.var 12) .bool)) .nil) [12]))
  (.cons (.if_ (.or (.cmp .ne (.var 5) (.lst .nil)) (.not (.isa (.var 11) .bool)))
    (.cons (.ret (.bl false))
    .nil)
    .nil)
  (.cons (.asg [6] (.dct (.cons (.str "+") (.cons (.bin .add (.var 9) (.var 10)) (.cons (.str "-") (.cons (.bin .sub (.var 9) (.var 10)) (.cons (.str "*") (.cons (.bin .mul (.var 9) (.var 10)) .nil))))))))
  (.cons (.for_ [7] (.var 6)
    (.cons (.if_ (.cmp .ne (.call 4 (.cons (.var 0) (.cons (.var 1) (.cons (.tup (.cons (.var 7) (.cons (.var 2) (.cons (.var 3) .nil)))) .nil)))) (.dget (.var 6) (.var 7)))
    (.cons (.ret (.bl false))
    .nil)
    .nil)
    .nil))
  (.cons (.asg [8] (.lst (.cons (.call 5 (.cons (.var 0) (.cons (.var 1) (.cons (.tup (.cons (.str "=") (.cons (.var 2) (.cons (.var 3) .nil)))) .nil)))) (.cons (.call 5 (.cons (.var 0) (.cons (.var 1) (.cons (.tup (.cons (.str "<") (.cons (.var 2) (.cons (.var 3) .nil)))) .nil)))) .nil))))
  (.cons (.asg [8] (.bin .add (.var 8) (.lst (.cons (.call 5 (.cons (.var 0) (.cons (.var 1) (.cons (.tup (.cons (.str "not") (.cons (.var 4) .nil))) .nil)))) .nil))))
  (.cons (.if_ (.or (.cmp .ne (.var 8) (.lst (.cons (.cmp .eq (.var 9) (.var 10)) (.cons (.cmp .lt (.var 9) (.var 10)) (.cons (.not (.var 11)) .nil))))) (.cmp .ne (.call 4 (.cons (.var 0) (.cons (.var 1) (.cons (.neg (.int 7)) .nil)))) (.neg (.int 7))))
    (.cons (.ret (.bl false))
    .nil)
    .nil)
  (.cons (.ret (.cmp .eq (.call 4 (.cons (.var 0) (.cons (.var 1) (.cons (.tup (.cons (.str "-") (.cons (.var 2) (.cons (.var 3) .nil)))) .nil)))) (.call 4 (.cons (.var 0) (.cons (.var 1) (.cons (.tup (.cons (.str "+") (.cons (.var 2) (.cons (.tup (.cons (.str "*") (.cons (.neg (.int 1)) (.cons (.var 3) .nil)))) .nil)))) .nil))))))
  .nil)))))))))
def D__law_numbers_right : DefD := { nm := "_law_numbers_right", ps := ["_law_entries", "_law_stand", "_law_e", "_law_f", "_law_c"], pv := none, N := ["_law_entries", "_law_stand", "_law_e", "_law_f", "_law_c", "_law_odd", "_law_want", "_law_sign", "_law_got", "_law_a", "_law_b", "_law_good", "_law_one"], fr := false, st := topS 20, body := b__law_numbers_right }
def b__law_conditions_right : Ss :=
  (.cons (.par [5, 6] (.cons (.call 5 (.cons (.var 0) (.cons (.var 1) (.cons (.var 2) .nil)))) (.cons (.call 5 (.cons (.var 0) (.cons (.var 1) (.cons (.var 3) .nil)))) .nil)))
  (.cons (.if_ (.cmp .ne (.call 5 (.cons (.var 0) (.cons (.var 1) (.cons (.tup (.cons (.str "and") (.cons (.var 2) (.cons (.var 3) .nil)))) .nil)))) (.and (.var 5) (.var 6)))
    (.cons (.ret (.bl false))
    .nil)
    .nil)
  (.cons (.if_ (.cmp .ne (.call 5 (.cons (.var 0) (.cons (.var 1) (.cons (.tup (.cons (.str "or") (.cons (.var 2) (.cons (.var 3) .nil)))) .nil)))) (.or (.var 5) (.var 6)))
    (.cons (.ret (.bl false))
    .nil)
    .nil)
  (.cons (.asg [4] (.tup (.cons (.str "not") (.cons (.tup (.cons (.str "and") (.cons (.tup (.cons (.str "not") (.cons (.var 2) .nil))) (.cons (.tup (.cons (.str "not") (.cons (.var 3) .nil))) .nil)))) .nil))))
  (.cons (.if_ (.cmp .ne (.call 5 (.cons (.var 0) (.cons (.var 1) (.cons (.tup (.cons (.str "or") (.cons (.var 2) (.cons (.var 3) .nil)))) .nil)))) (.call 5 (.cons (.var 0) (.cons (.var 1) (.cons (.var 4) .nil)))))
    (.cons (.ret (.bl false))
    .nil)
    .nil)
  (.cons (.ret (.and (.cmp .eq (.call 5 (.cons (.var 0) (.cons (.var 1) (.cons (.tup (.cons (.str "not") (.cons (.tup (.cons (.str "not") (.cons (.var 2) .nil))) .nil))) .nil)))) (.var 5)) (.cmp .eq (.call 5 (.cons (.var 0) (.cons (.var 1) (.cons (.tup (.cons (.str "and") (.cons (.var 2) (.cons (.var 2) .nil)))) .nil)))) (.var 5))))
  .nil))))))
def D__law_conditions_right : DefD := { nm := "_law_conditions_right", ps := ["_law_entries", "_law_stand", "_law_c", "_law_d"], pv := none, N := ["_law_entries", "_law_stand", "_law_c", "_law_d", "_law_turned", "_law_good", "_law_more"], fr := false, st := topS 21, body := b__law_conditions_right }
def b__law_sums_right : Ss :=
  (.cons (.asg [2, 3, 4] (.comp (.call 13 (.cons (.var 0) (.cons (.var 1) .nil))) [7] (.rng1 (.int 3)) .nil [7]))
  (.cons (.par [5, 6] (.cons (.call 1 (.cons (.var 1) .nil)) (.cons (.tupleOf (.comp (.bin .sub (.int 0) (.var 8)) [8] (.var 2) .nil [8])) .nil)))
  (.cons (.if_ (.or (.cmp .ne (.call 0 (.cons (.var 2) (.cons (.var 3) .nil))) (.call 0 (.cons (.var 3) (.cons (.var 2) .nil)))) (.or (.cmp .ne (.call 0 (.cons (.var 2) (.cons (.var 3) (.cons (.var 4) .nil)))) (.call 0 (.cons (.call 0 (.cons (.var 2) (.cons (.var 3) .nil))) (.cons (.var 4) .nil)))) (.cmp .ne (.call 0 (.cons (.var 2) (.cons (.call 0 (.cons (.var 3) (.cons (.var 4) .nil))) .nil))) (.call 0 (.cons (.var 4) (.cons (.var 2) (.cons (.var 3) .nil)))))))
    (.cons (.ret (.bl false))
    .nil)
    .nil)
  (.cons (.if_ (.or (.cmp .ne (.call 0 (.cons (.var 2) (.cons (.var 5) .nil))) (.var 2)) (.or (.cmp .ne (.call 0 (.cons (.var 5) (.cons (.var 2) .nil))) (.var 2)) (.or (.cmp .ne (.call 0 (.cons (.var 2) (.cons (.var 6) .nil))) (.var 5)) (.cmp .ne (.call 0 (.cons (.var 2) .nil)) (.var 2)))))
    (.cons (.ret (.bl false))
    .nil)
    .nil)
  (.cons (.ret (.and (.cmp .eq (.len (.var 5)) (.var 1)) (.and (.cmp .eq (.call 0 (.cons (.var 2) (.cons (.var 3) (.cons (.var 6) .nil)))) (.var 3)) (.cmp .eq (.call 0 (.cons (.var 2) (.cons (.var 2) .nil))) (.tupleOf (.comp (.bin .mul (.int 2) (.var 8)) [8] (.var 2) .nil [8]))))))
  .nil)))))
def D__law_sums_right : DefD := { nm := "_law_sums_right", ps := ["_law_reader_here", "_law_many"], pv := none, N := ["_law_reader_here", "_law_many", "_law_x", "_law_y", "_law_z", "_law_zero", "_law_back", "_law_k", "_law_one"], fr := false, st := topS 22, body := b__law_sums_right }
def b__law_states_right : Ss :=
  (.cons (.asg [3] (.call 0 (.cons (.var 1) (.cons (.var 2) .nil))))
  (.cons (.for_ [4] (.rng1 (.len (.var 0)))
    (.cons (.asg [6] (.tup (.cons (.str "item") (.cons (.ix (.ix (.var 0) (.var 4)) (.int 0)) .nil))))
    (.cons (.if_ (.cmp .ne (.call 4 (.cons (.var 0) (.cons (.var 1) (.cons (.var 6) .nil)))) (.ix (.var 1) (.var 4)))
    (.cons (.ret (.bl false))
    .nil)
    .nil)
    (.cons (.if_ (.cmp .ne (.call 4 (.cons (.var 0) (.cons (.var 3) (.cons (.var 6) .nil)))) (.bin .add (.call 4 (.cons (.var 0) (.cons (.var 1) (.cons (.var 6) .nil)))) (.call 4 (.cons (.var 0) (.cons (.var 2) (.cons (.var 6) .nil))))))
    (.cons (.ret (.bl false))
    .nil)
    .nil)
    .nil))))
  (.cons (.asg [5] (.tup (.cons (.str "+") (.cons (.tup (.cons (.str "item") (.cons (.ix (.ix (.var 0) (.int 0)) (.int 0)) .nil))) (.cons (.tup (.cons (.str "item") (.cons (.ix (.ix (.var 0) (.neg (.int 1))) (.int 0)) .nil))) .nil)))))
  (.cons (.ret (.cmp .eq (.call 4 (.cons (.var 0) (.cons (.var 3) (.cons (.var 5) .nil)))) (.bin .add (.call 4 (.cons (.var 0) (.cons (.var 1) (.cons (.var 5) .nil)))) (.call 4 (.cons (.var 0) (.cons (.var 2) (.cons (.var 5) .nil)))))))
  .nil))))
def D__law_states_right : DefD := { nm := "_law_states_right", ps := ["_law_entries", "_law_one", "_law_other"], pv := none, N := ["_law_entries", "_law_one", "_law_other", "_law_both", "_law_j", "_law_total", "_law_item"], fr := false, st := topS 23, body := b__law_states_right }
def b_law : Ss :=
  (.cons (.asgC 1 (.call 6 (.cons (.var 0) .nil)))
  (.cons (.asgO 2 (.comp (.ix (.var 5) (.int 0)) [5] (.call 14 .nil) .nil [5]))
  (.cons (.for_ [3] (.rng1 (.int 6))
    (.cons (.app 2 (.call 11 (.cons (.var 1) .nil)))
    .nil))
  (.cons (.frz 2)
  (.cons (.for_ [4] (.var 2)
    (.cons (.par [6, 7] (.cons (.call 12 (.cons (.var 4) .nil)) (.cons (.repr (.var 4)) .nil)))
    (.cons (.for_ [3] (.rng1 (.int 3))
    (.cons (.par [8, 9] (.cons (.call 13 (.cons (.var 1) (.cons (.len (.var 4)) .nil))) (.cons (.call 13 (.cons (.var 1) (.cons (.len (.var 4)) .nil))) .nil)))
    (.cons (.par [10, 11] (.cons (.call 9 (.cons (.var 1) (.cons (.var 6) (.cons (.int 1) .nil)))) (.cons (.call 9 (.cons (.var 1) (.cons (.var 6) (.cons (.int 1) .nil)))) .nil)))
    (.cons (.par [12, 13] (.cons (.call 10 (.cons (.var 1) (.cons (.var 6) (.cons (.int 1) .nil)))) (.cons (.call 10 (.cons (.var 1) (.cons (.var 6) (.cons (.int 0) .nil)))) .nil)))
    (.cons (.if_ (.or (.not (.call 15 (.cons (.var 4) (.cons (.var 8) (.cons (.var 10) (.cons (.var 11) (.cons (.var 12) .nil))))))) (.not (.call 16 (.cons (.var 4) (.cons (.var 8) (.cons (.var 12) (.cons (.var 13) .nil)))))))
    (.cons (.ret (.bl false))
    .nil)
    .nil)
    (.cons (.if_ (.or (.not (.call 18 (.cons (.var 4) (.cons (.var 8) (.cons (.var 9) .nil))))) (.not (.call 17 (.cons (.var 1) (.cons (.bin .add (.int 1) (.call 7 (.cons (.var 1) (.cons (.int 2) .nil)))) .nil)))))
    (.cons (.ret (.bl false))
    .nil)
    .nil)
    .nil))))))
    (.cons (.if_ (.cmp .ne (.repr (.var 4)) (.var 7))
    (.cons (.ret (.bl false))
    .nil)
    .nil)
    .nil))))
  (.cons (.ret (.bl true))
  .nil))))))
def D_law : DefD := { nm := "law", ps := ["_law_script"], pv := none, N := ["_law_script", "_law_reader_here", "_law_lots", "_law_turn", "_law_entries", "_law_till", "_law_slots_here", "_law_saved", "_law_stand", "_law_other", "_law_e", "_law_f", "_law_c", "_law_d"], fr := false, st := topS 24, body := b_law }
def ds : List DefD := [D_added, D_zero_sum, D_is_integer, D_names_of, D_value_in, D_holds_in, D__law_reader, D__law_draw, D__law_leaf, D__law_number, D__law_condition, D__law_random_items, D__law_slots, D__law_random_sum, D__law_fixed_stores, D__law_numbers_right, D__law_conditions_right, D__law_sums_right, D__law_states_right, D_law]
theorem bo_added : BindOk D_added := fun _ _ _ _ _ _ us rest hl => match us, rest, hl with
  | [_], [], _ => rfl
  | [_], _ :: _, _ => rfl
theorem bo_zero_sum : BindOk D_zero_sum := fun _ _ _ _ _ _ us hl => match us, hl with
  | [_], _ => rfl
theorem bo_is_integer : BindOk D_is_integer := fun _ _ _ _ _ _ us hl => match us, hl with
  | [_], _ => rfl
theorem bo_names_of : BindOk D_names_of := fun _ _ _ _ _ _ us hl => match us, hl with
  | [_], _ => rfl
theorem bo_value_in : BindOk D_value_in := fun _ _ _ _ _ _ us hl => match us, hl with
  | [_, _, _], _ => rfl
theorem bo_holds_in : BindOk D_holds_in := fun _ _ _ _ _ _ us hl => match us, hl with
  | [_, _, _], _ => rfl
theorem bo__law_reader : BindOk D__law_reader := fun _ _ _ _ _ _ us hl => match us, hl with
  | [_], _ => rfl
theorem bo__law_draw : BindOk D__law_draw := fun _ _ _ _ _ _ us hl => match us, hl with
  | [_, _], _ => rfl
theorem bo__law_leaf : BindOk D__law_leaf := fun _ _ _ _ _ _ us hl => match us, hl with
  | [_, _], _ => rfl
theorem bo__law_number : BindOk D__law_number := fun _ _ _ _ _ _ us hl => match us, hl with
  | [_, _, _], _ => rfl
theorem bo__law_condition : BindOk D__law_condition := fun _ _ _ _ _ _ us hl => match us, hl with
  | [_, _, _], _ => rfl
theorem bo__law_random_items : BindOk D__law_random_items := fun _ _ _ _ _ _ us hl => match us, hl with
  | [_], _ => rfl
theorem bo__law_slots : BindOk D__law_slots := fun _ _ _ _ _ _ us hl => match us, hl with
  | [_], _ => rfl
theorem bo__law_random_sum : BindOk D__law_random_sum := fun _ _ _ _ _ _ us hl => match us, hl with
  | [_, _], _ => rfl
theorem bo__law_fixed_stores : BindOk D__law_fixed_stores := fun _ _ _ _ _ _ us hl => match us, hl with
  | [], _ => rfl
theorem bo__law_numbers_right : BindOk D__law_numbers_right := fun _ _ _ _ _ _ us hl => match us, hl with
  | [_, _, _, _, _], _ => rfl
theorem bo__law_conditions_right : BindOk D__law_conditions_right := fun _ _ _ _ _ _ us hl => match us, hl with
  | [_, _, _, _], _ => rfl
theorem bo__law_sums_right : BindOk D__law_sums_right := fun _ _ _ _ _ _ us hl => match us, hl with
  | [_, _], _ => rfl
theorem bo__law_states_right : BindOk D__law_states_right := fun _ _ _ _ _ _ us hl => match us, hl with
  | [_, _, _], _ => rfl
theorem bo_law : BindOk D_law := fun _ _ _ _ _ _ us hl => match us, hl with
  | [_], _ => rfl
theorem ok_added : okD ds D_added = true := by decide +kernel
theorem ok_zero_sum : okD ds D_zero_sum = true := by decide +kernel
theorem ok_is_integer : okD ds D_is_integer = true := by decide +kernel
theorem ok_names_of : okD ds D_names_of = true := by decide +kernel
theorem ok_value_in : okD ds D_value_in = true := by decide +kernel
theorem ok_holds_in : okD ds D_holds_in = true := by decide +kernel
theorem ok__law_reader : okD ds D__law_reader = true := by decide +kernel
theorem ok__law_draw : okD ds D__law_draw = true := by decide +kernel
theorem ok__law_leaf : okD ds D__law_leaf = true := by decide +kernel
theorem ok__law_number : okD ds D__law_number = true := by decide +kernel
theorem ok__law_condition : okD ds D__law_condition = true := by decide +kernel
theorem ok__law_random_items : okD ds D__law_random_items = true := by decide +kernel
theorem ok__law_slots : okD ds D__law_slots = true := by decide +kernel
theorem ok__law_random_sum : okD ds D__law_random_sum = true := by decide +kernel
theorem ok__law_fixed_stores : okD ds D__law_fixed_stores = true := by decide +kernel
theorem ok__law_numbers_right : okD ds D__law_numbers_right = true := by decide +kernel
theorem ok__law_conditions_right : okD ds D__law_conditions_right = true := by decide +kernel
theorem ok__law_sums_right : okD ds D__law_sums_right = true := by decide +kernel
theorem ok__law_states_right : okD ds D__law_states_right = true := by decide +kernel
theorem ok_law : okD ds D_law = true := by decide +kernel
theorem told_all {K : PySem.W.Frag} {h : Heap} {mg : Str → Option Value} (X : K.In h) (G : h.Ns mainGlobals mg) {f0 : Addr} {od0 an0 : Option Addr} {sl0 : Array (Option Value)} {oc0 kV0 dc0 pm0 cd0 ct0 : Value} {f1 : Addr} {od1 an1 : Option Addr} {sl1 : Array (Option Value)} {oc1 kV1 dc1 pm1 cd1 ct1 : Value} {f2 : Addr} {od2 an2 : Option Addr} {sl2 : Array (Option Value)} {oc2 kV2 dc2 pm2 cd2 ct2 : Value} {f3 : Addr} {od3 an3 : Option Addr} {sl3 : Array (Option Value)} {oc3 kV3 dc3 pm3 cd3 ct3 : Value} {f4 : Addr} {od4 an4 : Option Addr} {sl4 : Array (Option Value)} {oc4 kV4 dc4 pm4 cd4 ct4 : Value} {f5 : Addr} {od5 an5 : Option Addr} {sl5 : Array (Option Value)} {oc5 kV5 dc5 pm5 cd5 ct5 : Value} {f6 : Addr} {od6 an6 : Option Addr} {sl6 : Array (Option Value)} {oc6 kV6 dc6 pm6 cd6 ct6 : Value} {f7 : Addr} {od7 an7 : Option Addr} {sl7 : Array (Option Value)} {oc7 kV7 dc7 pm7 cd7 ct7 : Value} {f8 : Addr} {od8 an8 : Option Addr} {sl8 : Array (Option Value)} {oc8 kV8 dc8 pm8 cd8 ct8 : Value} {f9 : Addr} {od9 an9 : Option Addr} {sl9 : Array (Option Value)} {oc9 kV9 dc9 pm9 cd9 ct9 : Value} {f10 : Addr} {od10 an10 : Option Addr} {sl10 : Array (Option Value)} {oc10 kV10 dc10 pm10 cd10 ct10 : Value} {f11 : Addr} {od11 an11 : Option Addr} {sl11 : Array (Option Value)} {oc11 kV11 dc11 pm11 cd11 ct11 : Value} {f12 : Addr} {od12 an12 : Option Addr} {sl12 : Array (Option Value)} {oc12 kV12 dc12 pm12 cd12 ct12 : Value} {f13 : Addr} {od13 an13 : Option Addr} {sl13 : Array (Option Value)} {oc13 kV13 dc13 pm13 cd13 ct13 : Value} {f14 : Addr} {od14 an14 : Option Addr} {sl14 : Array (Option Value)} {oc14 kV14 dc14 pm14 cd14 ct14 : Value} {f15 : Addr} {od15 an15 : Option Addr} {sl15 : Array (Option Value)} {oc15 kV15 dc15 pm15 cd15 ct15 : Value} {f16 : Addr} {od16 an16 : Option Addr} {sl16 : Array (Option Value)} {oc16 kV16 dc16 pm16 cd16 ct16 : Value} {f17 : Addr} {od17 an17 : Option Addr} {sl17 : Array (Option Value)} {oc17 kV17 dc17 pm17 cd17 ct17 : Value} {f18 : Addr} {od18 an18 : Option Addr} {sl18 : Array (Option Value)} {oc18 kV18 dc18 pm18 cd18 ct18 : Value} {f19 : Addr} {od19 an19 : Option Addr} {sl19 : Array (Option Value)} {oc19 kV19 dc19 pm19 cd19 ct19 : Value}
    (a0 : PySem.W.nsIn K mainGlobals "added" = some (some (.ref f0))) (l0 : K.lookup f0 = some ⟨oc0, od0, .func (PySem.W.fnOf "added" "added" (defArgs D_added.st) (defBody D_added.st) (defScope D_added.st) .none kV0 dc0 pm0 an0 cd0 ct0), sl0⟩) (c0 : PySem.W.codeIn K cd0 "added" = true) (k0 : PySem.W.keepIn K (.ref f0) = true)
    (a1 : PySem.W.nsIn K mainGlobals "zero_sum" = some (some (.ref f1))) (l1 : K.lookup f1 = some ⟨oc1, od1, .func (PySem.W.fnOf "zero_sum" "zero_sum" (defArgs D_zero_sum.st) (defBody D_zero_sum.st) (defScope D_zero_sum.st) .none kV1 dc1 pm1 an1 cd1 ct1), sl1⟩) (c1 : PySem.W.codeIn K cd1 "zero_sum" = true) (k1 : PySem.W.keepIn K (.ref f1) = true)
    (a2 : PySem.W.nsIn K mainGlobals "is_integer" = some (some (.ref f2))) (l2 : K.lookup f2 = some ⟨oc2, od2, .func (PySem.W.fnOf "is_integer" "is_integer" (defArgs D_is_integer.st) (defBody D_is_integer.st) (defScope D_is_integer.st) .none kV2 dc2 pm2 an2 cd2 ct2), sl2⟩) (c2 : PySem.W.codeIn K cd2 "is_integer" = true) (k2 : PySem.W.keepIn K (.ref f2) = true)
    (a3 : PySem.W.nsIn K mainGlobals "names_of" = some (some (.ref f3))) (l3 : K.lookup f3 = some ⟨oc3, od3, .func (PySem.W.fnOf "names_of" "names_of" (defArgs D_names_of.st) (defBody D_names_of.st) (defScope D_names_of.st) .none kV3 dc3 pm3 an3 cd3 ct3), sl3⟩) (c3 : PySem.W.codeIn K cd3 "names_of" = true) (k3 : PySem.W.keepIn K (.ref f3) = true)
    (a4 : PySem.W.nsIn K mainGlobals "value_in" = some (some (.ref f4))) (l4 : K.lookup f4 = some ⟨oc4, od4, .func (PySem.W.fnOf "value_in" "value_in" (defArgs D_value_in.st) (defBody D_value_in.st) (defScope D_value_in.st) .none kV4 dc4 pm4 an4 cd4 ct4), sl4⟩) (c4 : PySem.W.codeIn K cd4 "value_in" = true) (k4 : PySem.W.keepIn K (.ref f4) = true)
    (a5 : PySem.W.nsIn K mainGlobals "holds_in" = some (some (.ref f5))) (l5 : K.lookup f5 = some ⟨oc5, od5, .func (PySem.W.fnOf "holds_in" "holds_in" (defArgs D_holds_in.st) (defBody D_holds_in.st) (defScope D_holds_in.st) .none kV5 dc5 pm5 an5 cd5 ct5), sl5⟩) (c5 : PySem.W.codeIn K cd5 "holds_in" = true) (k5 : PySem.W.keepIn K (.ref f5) = true)
    (a6 : PySem.W.nsIn K mainGlobals "_law_reader" = some (some (.ref f6))) (l6 : K.lookup f6 = some ⟨oc6, od6, .func (PySem.W.fnOf "_law_reader" "_law_reader" (defArgs D__law_reader.st) (defBody D__law_reader.st) (defScope D__law_reader.st) .none kV6 dc6 pm6 an6 cd6 ct6), sl6⟩) (c6 : PySem.W.codeIn K cd6 "_law_reader" = true) (k6 : PySem.W.keepIn K (.ref f6) = true)
    (a7 : PySem.W.nsIn K mainGlobals "_law_draw" = some (some (.ref f7))) (l7 : K.lookup f7 = some ⟨oc7, od7, .func (PySem.W.fnOf "_law_draw" "_law_draw" (defArgs D__law_draw.st) (defBody D__law_draw.st) (defScope D__law_draw.st) .none kV7 dc7 pm7 an7 cd7 ct7), sl7⟩) (c7 : PySem.W.codeIn K cd7 "_law_draw" = true) (k7 : PySem.W.keepIn K (.ref f7) = true)
    (a8 : PySem.W.nsIn K mainGlobals "_law_leaf" = some (some (.ref f8))) (l8 : K.lookup f8 = some ⟨oc8, od8, .func (PySem.W.fnOf "_law_leaf" "_law_leaf" (defArgs D__law_leaf.st) (defBody D__law_leaf.st) (defScope D__law_leaf.st) .none kV8 dc8 pm8 an8 cd8 ct8), sl8⟩) (c8 : PySem.W.codeIn K cd8 "_law_leaf" = true) (k8 : PySem.W.keepIn K (.ref f8) = true)
    (a9 : PySem.W.nsIn K mainGlobals "_law_number" = some (some (.ref f9))) (l9 : K.lookup f9 = some ⟨oc9, od9, .func (PySem.W.fnOf "_law_number" "_law_number" (defArgs D__law_number.st) (defBody D__law_number.st) (defScope D__law_number.st) .none kV9 dc9 pm9 an9 cd9 ct9), sl9⟩) (c9 : PySem.W.codeIn K cd9 "_law_number" = true) (k9 : PySem.W.keepIn K (.ref f9) = true)
    (a10 : PySem.W.nsIn K mainGlobals "_law_condition" = some (some (.ref f10))) (l10 : K.lookup f10 = some ⟨oc10, od10, .func (PySem.W.fnOf "_law_condition" "_law_condition" (defArgs D__law_condition.st) (defBody D__law_condition.st) (defScope D__law_condition.st) .none kV10 dc10 pm10 an10 cd10 ct10), sl10⟩) (c10 : PySem.W.codeIn K cd10 "_law_condition" = true) (k10 : PySem.W.keepIn K (.ref f10) = true)
    (a11 : PySem.W.nsIn K mainGlobals "_law_random_items" = some (some (.ref f11))) (l11 : K.lookup f11 = some ⟨oc11, od11, .func (PySem.W.fnOf "_law_random_items" "_law_random_items" (defArgs D__law_random_items.st) (defBody D__law_random_items.st) (defScope D__law_random_items.st) .none kV11 dc11 pm11 an11 cd11 ct11), sl11⟩) (c11 : PySem.W.codeIn K cd11 "_law_random_items" = true) (k11 : PySem.W.keepIn K (.ref f11) = true)
    (a12 : PySem.W.nsIn K mainGlobals "_law_slots" = some (some (.ref f12))) (l12 : K.lookup f12 = some ⟨oc12, od12, .func (PySem.W.fnOf "_law_slots" "_law_slots" (defArgs D__law_slots.st) (defBody D__law_slots.st) (defScope D__law_slots.st) .none kV12 dc12 pm12 an12 cd12 ct12), sl12⟩) (c12 : PySem.W.codeIn K cd12 "_law_slots" = true) (k12 : PySem.W.keepIn K (.ref f12) = true)
    (a13 : PySem.W.nsIn K mainGlobals "_law_random_sum" = some (some (.ref f13))) (l13 : K.lookup f13 = some ⟨oc13, od13, .func (PySem.W.fnOf "_law_random_sum" "_law_random_sum" (defArgs D__law_random_sum.st) (defBody D__law_random_sum.st) (defScope D__law_random_sum.st) .none kV13 dc13 pm13 an13 cd13 ct13), sl13⟩) (c13 : PySem.W.codeIn K cd13 "_law_random_sum" = true) (k13 : PySem.W.keepIn K (.ref f13) = true)
    (a14 : PySem.W.nsIn K mainGlobals "_law_fixed_stores" = some (some (.ref f14))) (l14 : K.lookup f14 = some ⟨oc14, od14, .func (PySem.W.fnOf "_law_fixed_stores" "_law_fixed_stores" (defArgs D__law_fixed_stores.st) (defBody D__law_fixed_stores.st) (defScope D__law_fixed_stores.st) .none kV14 dc14 pm14 an14 cd14 ct14), sl14⟩) (c14 : PySem.W.codeIn K cd14 "_law_fixed_stores" = true) (k14 : PySem.W.keepIn K (.ref f14) = true)
    (a15 : PySem.W.nsIn K mainGlobals "_law_numbers_right" = some (some (.ref f15))) (l15 : K.lookup f15 = some ⟨oc15, od15, .func (PySem.W.fnOf "_law_numbers_right" "_law_numbers_right" (defArgs D__law_numbers_right.st) (defBody D__law_numbers_right.st) (defScope D__law_numbers_right.st) .none kV15 dc15 pm15 an15 cd15 ct15), sl15⟩) (c15 : PySem.W.codeIn K cd15 "_law_numbers_right" = true) (k15 : PySem.W.keepIn K (.ref f15) = true)
    (a16 : PySem.W.nsIn K mainGlobals "_law_conditions_right" = some (some (.ref f16))) (l16 : K.lookup f16 = some ⟨oc16, od16, .func (PySem.W.fnOf "_law_conditions_right" "_law_conditions_right" (defArgs D__law_conditions_right.st) (defBody D__law_conditions_right.st) (defScope D__law_conditions_right.st) .none kV16 dc16 pm16 an16 cd16 ct16), sl16⟩) (c16 : PySem.W.codeIn K cd16 "_law_conditions_right" = true) (k16 : PySem.W.keepIn K (.ref f16) = true)
    (a17 : PySem.W.nsIn K mainGlobals "_law_sums_right" = some (some (.ref f17))) (l17 : K.lookup f17 = some ⟨oc17, od17, .func (PySem.W.fnOf "_law_sums_right" "_law_sums_right" (defArgs D__law_sums_right.st) (defBody D__law_sums_right.st) (defScope D__law_sums_right.st) .none kV17 dc17 pm17 an17 cd17 ct17), sl17⟩) (c17 : PySem.W.codeIn K cd17 "_law_sums_right" = true) (k17 : PySem.W.keepIn K (.ref f17) = true)
    (a18 : PySem.W.nsIn K mainGlobals "_law_states_right" = some (some (.ref f18))) (l18 : K.lookup f18 = some ⟨oc18, od18, .func (PySem.W.fnOf "_law_states_right" "_law_states_right" (defArgs D__law_states_right.st) (defBody D__law_states_right.st) (defScope D__law_states_right.st) .none kV18 dc18 pm18 an18 cd18 ct18), sl18⟩) (c18 : PySem.W.codeIn K cd18 "_law_states_right" = true) (k18 : PySem.W.keepIn K (.ref f18) = true)
    (a19 : PySem.W.nsIn K mainGlobals "law" = some (some (.ref f19))) (l19 : K.lookup f19 = some ⟨oc19, od19, .func (PySem.W.fnOf "law" "law" (defArgs D_law.st) (defBody D_law.st) (defScope D_law.st) .none kV19 dc19 pm19 an19 cd19 ct19), sl19⟩) (c19 : PySem.W.codeIn K cd19 "law" = true) (k19 : PySem.W.keepIn K (.ref f19) = true) : AllP (Told K mg) ds :=
  ⟨⟨f0, _, PySem.W.mg_of X G a0, k0, fun_mk (st := D_added.st) l0 c0 k0⟩, ⟨f1, _, PySem.W.mg_of X G a1, k1, fun_mk (st := D_zero_sum.st) l1 c1 k1⟩, ⟨f2, _, PySem.W.mg_of X G a2, k2, fun_mk (st := D_is_integer.st) l2 c2 k2⟩, ⟨f3, _, PySem.W.mg_of X G a3, k3, fun_mk (st := D_names_of.st) l3 c3 k3⟩, ⟨f4, _, PySem.W.mg_of X G a4, k4, fun_mk (st := D_value_in.st) l4 c4 k4⟩, ⟨f5, _, PySem.W.mg_of X G a5, k5, fun_mk (st := D_holds_in.st) l5 c5 k5⟩, ⟨f6, _, PySem.W.mg_of X G a6, k6, fun_mk (st := D__law_reader.st) l6 c6 k6⟩, ⟨f7, _, PySem.W.mg_of X G a7, k7, fun_mk (st := D__law_draw.st) l7 c7 k7⟩, ⟨f8, _, PySem.W.mg_of X G a8, k8, fun_mk (st := D__law_leaf.st) l8 c8 k8⟩, ⟨f9, _, PySem.W.mg_of X G a9, k9, fun_mk (st := D__law_number.st) l9 c9 k9⟩, ⟨f10, _, PySem.W.mg_of X G a10, k10, fun_mk (st := D__law_condition.st) l10 c10 k10⟩, ⟨f11, _, PySem.W.mg_of X G a11, k11, fun_mk (st := D__law_random_items.st) l11 c11 k11⟩, ⟨f12, _, PySem.W.mg_of X G a12, k12, fun_mk (st := D__law_slots.st) l12 c12 k12⟩, ⟨f13, _, PySem.W.mg_of X G a13, k13, fun_mk (st := D__law_random_sum.st) l13 c13 k13⟩, ⟨f14, _, PySem.W.mg_of X G a14, k14, fun_mk (st := D__law_fixed_stores.st) l14 c14 k14⟩, ⟨f15, _, PySem.W.mg_of X G a15, k15, fun_mk (st := D__law_numbers_right.st) l15 c15 k15⟩, ⟨f16, _, PySem.W.mg_of X G a16, k16, fun_mk (st := D__law_conditions_right.st) l16 c16 k16⟩, ⟨f17, _, PySem.W.mg_of X G a17, k17, fun_mk (st := D__law_sums_right.st) l17 c17 k17⟩, ⟨f18, _, PySem.W.mg_of X G a18, k18, fun_mk (st := D__law_states_right.st) l18 c18 k18⟩, ⟨f19, _, PySem.W.mg_of X G a19, k19, fun_mk (st := D_law.st) l19 c19 k19⟩, trivial⟩
theorem bind_all : AllP BindOk ds := ⟨bo_added, bo_zero_sum, bo_is_integer, bo_names_of, bo_value_in, bo_holds_in, bo__law_reader, bo__law_draw, bo__law_leaf, bo__law_number, bo__law_condition, bo__law_random_items, bo__law_slots, bo__law_random_sum, bo__law_fixed_stores, bo__law_numbers_right, bo__law_conditions_right, bo__law_sums_right, bo__law_states_right, bo_law, trivial⟩
theorem okD_all : AllP (fun D => okD ds D = true) ds := ⟨ok_added, ok_zero_sum, ok_is_integer, ok_names_of, ok_value_in, ok_holds_in, ok__law_reader, ok__law_draw, ok__law_leaf, ok__law_number, ok__law_condition, ok__law_random_items, ok__law_slots, ok__law_random_sum, ok__law_fixed_stores, ok__law_numbers_right, ok__law_conditions_right, ok__law_sums_right, ok__law_states_right, ok_law, trivial⟩
end K05
namespace K05
open PySem L2 Ev
abbrev FU : Nat := 0
@[irreducible] def P (n : Nat) := Phi ds FU n
theorem s_added {n : Nat} {x0 : PV}  {rest : List PV} {st : Cel} {Q : Kp PV} (hz : szOk rest.length = true) (h : @RS.w (evSs (P n) FU b_added [.val x0, .val (.tup rest), .emp, .emp, .emp, .emp] st) ⟨fun _ st => Q.run .non st, Q.run, fun _ _ => False, fun _ _ => False⟩) : @R.w _ (P (n + 1) 0 (x0 :: rest) st) Q := by
  have e : P (n + 1) 0 (x0 :: rest) st = fin (evSs (P n) FU b_added [.val x0, .val (.tup rest), .emp, .emp, .emp, .emp] st) := by
    unfold P
    show Ev.run _ _ _ _ _ = _
    unfold Ev.run
    rw [if_pos (by rfl), if_pos (by simp [DefD.fn, D_added, hz])]
    rfl
  rw [e, w_fin]
  exact h
theorem s_zero_sum {n : Nat} {x0 : PV}  {st : Cel} {Q : Kp PV} (h : @RS.w (evSs (P n) FU b_zero_sum [.val x0] st) ⟨fun _ st => Q.run .non st, Q.run, fun _ _ => False, fun _ _ => False⟩) : @R.w _ (P (n + 1) 1 ([x0]) st) Q := by
  have e : P (n + 1) 1 ([x0]) st = fin (evSs (P n) FU b_zero_sum [.val x0] st) := by
    unfold P
    rfl
  rw [e, w_fin]
  exact h
theorem s_is_integer {n : Nat} {x0 : PV}  {st : Cel} {Q : Kp PV} (h : @RS.w (evSs (P n) FU b_is_integer [.val x0] st) ⟨fun _ st => Q.run .non st, Q.run, fun _ _ => False, fun _ _ => False⟩) : @R.w _ (P (n + 1) 2 ([x0]) st) Q := by
  have e : P (n + 1) 2 ([x0]) st = fin (evSs (P n) FU b_is_integer [.val x0] st) := by
    unfold P
    rfl
  rw [e, w_fin]
  exact h
theorem s_names_of {n : Nat} {x0 : PV}  {st : Cel} {Q : Kp PV} (h : @RS.w (evSs (P n) FU b_names_of [.val x0, .emp] st) ⟨fun _ st => Q.run .non st, Q.run, fun _ _ => False, fun _ _ => False⟩) : @R.w _ (P (n + 1) 3 ([x0]) st) Q := by
  have e : P (n + 1) 3 ([x0]) st = fin (evSs (P n) FU b_names_of [.val x0, .emp] st) := by
    unfold P
    rfl
  rw [e, w_fin]
  exact h
theorem s_value_in {n : Nat} {x0 x1 x2 : PV}  {st : Cel} {Q : Kp PV} (h : @RS.w (evSs (P n) FU b_value_in [.val x0, .val x1, .val x2, .emp, .emp, .emp, .emp, .emp] st) ⟨fun _ st => Q.run .non st, Q.run, fun _ _ => False, fun _ _ => False⟩) : @R.w _ (P (n + 1) 4 ([x0, x1, x2]) st) Q := by
  have e : P (n + 1) 4 ([x0, x1, x2]) st = fin (evSs (P n) FU b_value_in [.val x0, .val x1, .val x2, .emp, .emp, .emp, .emp, .emp] st) := by
    unfold P
    rfl
  rw [e, w_fin]
  exact h
theorem s_holds_in {n : Nat} {x0 x1 x2 : PV}  {st : Cel} {Q : Kp PV} (h : @RS.w (evSs (P n) FU b_holds_in [.val x0, .val x1, .val x2, .emp, .emp, .emp, .emp, .emp] st) ⟨fun _ st => Q.run .non st, Q.run, fun _ _ => False, fun _ _ => False⟩) : @R.w _ (P (n + 1) 5 ([x0, x1, x2]) st) Q := by
  have e : P (n + 1) 5 ([x0, x1, x2]) st = fin (evSs (P n) FU b_holds_in [.val x0, .val x1, .val x2, .emp, .emp, .emp, .emp, .emp] st) := by
    unfold P
    rfl
  rw [e, w_fin]
  exact h
theorem s__law_reader {n : Nat} {x0 : PV}  {st : Cel} {Q : Kp PV} (h : @RS.w (evSs (P n) FU b__law_reader [.val x0] st) ⟨fun _ st => Q.run .non st, Q.run, fun _ _ => False, fun _ _ => False⟩) : @R.w _ (P (n + 1) 6 ([x0]) st) Q := by
  have e : P (n + 1) 6 ([x0]) st = fin (evSs (P n) FU b__law_reader [.val x0] st) := by
    unfold P
    rfl
  rw [e, w_fin]
  exact h
theorem s__law_draw {n : Nat} {x0 x1 : PV}  {st : Cel} {Q : Kp PV} (h : @RS.w (evSs (P n) FU b__law_draw [.val x0, .val x1, .emp, .emp, .emp] st) ⟨fun _ st => Q.run .non st, Q.run, fun _ _ => False, fun _ _ => False⟩) : @R.w _ (P (n + 1) 7 ([x0, x1]) st) Q := by
  have e : P (n + 1) 7 ([x0, x1]) st = fin (evSs (P n) FU b__law_draw [.val x0, .val x1, .emp, .emp, .emp] st) := by
    unfold P
    rfl
  rw [e, w_fin]
  exact h
theorem s__law_leaf {n : Nat} {x0 x1 : PV}  {st : Cel} {Q : Kp PV} (h : @RS.w (evSs (P n) FU b__law_leaf [.val x0, .val x1] st) ⟨fun _ st => Q.run .non st, Q.run, fun _ _ => False, fun _ _ => False⟩) : @R.w _ (P (n + 1) 8 ([x0, x1]) st) Q := by
  have e : P (n + 1) 8 ([x0, x1]) st = fin (evSs (P n) FU b__law_leaf [.val x0, .val x1] st) := by
    unfold P
    rfl
  rw [e, w_fin]
  exact h
theorem s__law_number {n : Nat} {x0 x1 x2 : PV}  {st : Cel} {Q : Kp PV} (h : @RS.w (evSs (P n) FU b__law_number [.val x0, .val x1, .val x2, .emp, .emp] st) ⟨fun _ st => Q.run .non st, Q.run, fun _ _ => False, fun _ _ => False⟩) : @R.w _ (P (n + 1) 9 ([x0, x1, x2]) st) Q := by
  have e : P (n + 1) 9 ([x0, x1, x2]) st = fin (evSs (P n) FU b__law_number [.val x0, .val x1, .val x2, .emp, .emp] st) := by
    unfold P
    rfl
  rw [e, w_fin]
  exact h
theorem s__law_condition {n : Nat} {x0 x1 x2 : PV}  {st : Cel} {Q : Kp PV} (h : @RS.w (evSs (P n) FU b__law_condition [.val x0, .val x1, .val x2, .emp, .emp] st) ⟨fun _ st => Q.run .non st, Q.run, fun _ _ => False, fun _ _ => False⟩) : @R.w _ (P (n + 1) 10 ([x0, x1, x2]) st) Q := by
  have e : P (n + 1) 10 ([x0, x1, x2]) st = fin (evSs (P n) FU b__law_condition [.val x0, .val x1, .val x2, .emp, .emp] st) := by
    unfold P
    rfl
  rw [e, w_fin]
  exact h
theorem s__law_random_items {n : Nat} {x0 : PV}  {st : Cel} {Q : Kp PV} (h : @RS.w (evSs (P n) FU b__law_random_items [.val x0, .emp, .emp, .emp] st) ⟨fun _ st => Q.run .non st, Q.run, fun _ _ => False, fun _ _ => False⟩) : @R.w _ (P (n + 1) 11 ([x0]) st) Q := by
  have e : P (n + 1) 11 ([x0]) st = fin (evSs (P n) FU b__law_random_items [.val x0, .emp, .emp, .emp] st) := by
    unfold P
    rfl
  rw [e, w_fin]
  exact h
theorem s__law_slots {n : Nat} {x0 : PV}  {st : Cel} {Q : Kp PV} (h : @RS.w (evSs (P n) FU b__law_slots [.val x0, .emp] st) ⟨fun _ st => Q.run .non st, Q.run, fun _ _ => False, fun _ _ => False⟩) : @R.w _ (P (n + 1) 12 ([x0]) st) Q := by
  have e : P (n + 1) 12 ([x0]) st = fin (evSs (P n) FU b__law_slots [.val x0, .emp] st) := by
    unfold P
    rfl
  rw [e, w_fin]
  exact h
theorem s__law_random_sum {n : Nat} {x0 x1 : PV}  {st : Cel} {Q : Kp PV} (h : @RS.w (evSs (P n) FU b__law_random_sum [.val x0, .val x1, .emp] st) ⟨fun _ st => Q.run .non st, Q.run, fun _ _ => False, fun _ _ => False⟩) : @R.w _ (P (n + 1) 13 ([x0, x1]) st) Q := by
  have e : P (n + 1) 13 ([x0, x1]) st = fin (evSs (P n) FU b__law_random_sum [.val x0, .val x1, .emp] st) := by
    unfold P
    rfl
  rw [e, w_fin]
  exact h
theorem s__law_fixed_stores {n : Nat}  {st : Cel} {Q : Kp PV} (h : @RS.w (evSs (P n) FU b__law_fixed_stores [.emp, .emp, .emp, .emp, .emp] st) ⟨fun _ st => Q.run .non st, Q.run, fun _ _ => False, fun _ _ => False⟩) : @R.w _ (P (n + 1) 14 ([]) st) Q := by
  have e : P (n + 1) 14 [] st = fin (evSs (P n) FU b__law_fixed_stores [.emp, .emp, .emp, .emp, .emp] st) := by
    unfold P
    show Ev.run _ _ _ _ _ = _
    unfold Ev.run
    rw [if_neg (by decide), if_pos (by rfl)]
    rfl
  rw [e, w_fin]
  exact h
theorem s__law_numbers_right {n : Nat} {x0 x1 x2 x3 x4 : PV}  {st : Cel} {Q : Kp PV} (h : @RS.w (evSs (P n) FU b__law_numbers_right [.val x0, .val x1, .val x2, .val x3, .val x4, .emp, .emp, .emp, .emp, .emp, .emp, .emp, .emp] st) ⟨fun _ st => Q.run .non st, Q.run, fun _ _ => False, fun _ _ => False⟩) : @R.w _ (P (n + 1) 15 ([x0, x1, x2, x3, x4]) st) Q := by
  have e : P (n + 1) 15 ([x0, x1, x2, x3, x4]) st = fin (evSs (P n) FU b__law_numbers_right [.val x0, .val x1, .val x2, .val x3, .val x4, .emp, .emp, .emp, .emp, .emp, .emp, .emp, .emp] st) := by
    unfold P
    rfl
  rw [e, w_fin]
  exact h
theorem s__law_conditions_right {n : Nat} {x0 x1 x2 x3 : PV}  {st : Cel} {Q : Kp PV} (h : @RS.w (evSs (P n) FU b__law_conditions_right [.val x0, .val x1, .val x2, .val x3, .emp, .emp, .emp] st) ⟨fun _ st => Q.run .non st, Q.run, fun _ _ => False, fun _ _ => False⟩) : @R.w _ (P (n + 1) 16 ([x0, x1, x2, x3]) st) Q := by
  have e : P (n + 1) 16 ([x0, x1, x2, x3]) st = fin (evSs (P n) FU b__law_conditions_right [.val x0, .val x1, .val x2, .val x3, .emp, .emp, .emp] st) := by
    unfold P
    rfl
  rw [e, w_fin]
  exact h
theorem s__law_sums_right {n : Nat} {x0 x1 : PV}  {st : Cel} {Q : Kp PV} (h : @RS.w (evSs (P n) FU b__law_sums_right [.val x0, .val x1, .emp, .emp, .emp, .emp, .emp, .emp, .emp] st) ⟨fun _ st => Q.run .non st, Q.run, fun _ _ => False, fun _ _ => False⟩) : @R.w _ (P (n + 1) 17 ([x0, x1]) st) Q := by
  have e : P (n + 1) 17 ([x0, x1]) st = fin (evSs (P n) FU b__law_sums_right [.val x0, .val x1, .emp, .emp, .emp, .emp, .emp, .emp, .emp] st) := by
    unfold P
    rfl
  rw [e, w_fin]
  exact h
theorem s__law_states_right {n : Nat} {x0 x1 x2 : PV}  {st : Cel} {Q : Kp PV} (h : @RS.w (evSs (P n) FU b__law_states_right [.val x0, .val x1, .val x2, .emp, .emp, .emp, .emp] st) ⟨fun _ st => Q.run .non st, Q.run, fun _ _ => False, fun _ _ => False⟩) : @R.w _ (P (n + 1) 18 ([x0, x1, x2]) st) Q := by
  have e : P (n + 1) 18 ([x0, x1, x2]) st = fin (evSs (P n) FU b__law_states_right [.val x0, .val x1, .val x2, .emp, .emp, .emp, .emp] st) := by
    unfold P
    rfl
  rw [e, w_fin]
  exact h
theorem s_law {n : Nat} {x0 : PV}  {st : Cel} {Q : Kp PV} (h : @RS.w (evSs (P n) FU b_law [.val x0, .emp, .emp, .emp, .emp, .emp, .emp, .emp, .emp, .emp, .emp, .emp, .emp, .emp] st) ⟨fun _ st => Q.run .non st, Q.run, fun _ _ => False, fun _ _ => False⟩) : @R.w _ (P (n + 1) 19 ([x0]) st) Q := by
  have e : P (n + 1) 19 ([x0]) st = fin (evSs (P n) FU b_law [.val x0, .emp, .emp, .emp, .emp, .emp, .emp, .emp, .emp, .emp, .emp, .emp, .emp, .emp] st) := by
    unfold P
    rfl
  rw [e, w_fin]
  exact h
@[simp] theorem q_0_0 : Ev.eqV (.str "item") (.str "item") = some true := by rw [eqV_str]; decide +kernel
@[simp] theorem q_0_1 : Ev.eqV (.str "item") (.str "+") = some false := by rw [eqV_str]; decide +kernel
@[simp] theorem q_0_2 : Ev.eqV (.str "item") (.str "-") = some false := by rw [eqV_str]; decide +kernel
@[simp] theorem q_0_3 : Ev.eqV (.str "item") (.str "*") = some false := by rw [eqV_str]; decide +kernel
@[simp] theorem q_0_4 : Ev.eqV (.str "item") (.str "=") = some false := by rw [eqV_str]; decide +kernel
@[simp] theorem q_0_5 : Ev.eqV (.str "item") (.str "<") = some false := by rw [eqV_str]; decide +kernel
@[simp] theorem q_0_6 : Ev.eqV (.str "item") (.str "and") = some false := by rw [eqV_str]; decide +kernel
@[simp] theorem q_0_7 : Ev.eqV (.str "item") (.str "or") = some false := by rw [eqV_str]; decide +kernel
@[simp] theorem q_0_8 : Ev.eqV (.str "item") (.str "not") = some false := by rw [eqV_str]; decide +kernel
@[simp] theorem q_1_0 : Ev.eqV (.str "+") (.str "item") = some false := by rw [eqV_str]; decide +kernel
@[simp] theorem q_1_1 : Ev.eqV (.str "+") (.str "+") = some true := by rw [eqV_str]; decide +kernel
@[simp] theorem q_1_2 : Ev.eqV (.str "+") (.str "-") = some false := by rw [eqV_str]; decide +kernel
@[simp] theorem q_1_3 : Ev.eqV (.str "+") (.str "*") = some false := by rw [eqV_str]; decide +kernel
@[simp] theorem q_1_4 : Ev.eqV (.str "+") (.str "=") = some false := by rw [eqV_str]; decide +kernel
@[simp] theorem q_1_5 : Ev.eqV (.str "+") (.str "<") = some false := by rw [eqV_str]; decide +kernel
@[simp] theorem q_1_6 : Ev.eqV (.str "+") (.str "and") = some false := by rw [eqV_str]; decide +kernel
@[simp] theorem q_1_7 : Ev.eqV (.str "+") (.str "or") = some false := by rw [eqV_str]; decide +kernel
@[simp] theorem q_1_8 : Ev.eqV (.str "+") (.str "not") = some false := by rw [eqV_str]; decide +kernel
@[simp] theorem q_2_0 : Ev.eqV (.str "-") (.str "item") = some false := by rw [eqV_str]; decide +kernel
@[simp] theorem q_2_1 : Ev.eqV (.str "-") (.str "+") = some false := by rw [eqV_str]; decide +kernel
@[simp] theorem q_2_2 : Ev.eqV (.str "-") (.str "-") = some true := by rw [eqV_str]; decide +kernel
@[simp] theorem q_2_3 : Ev.eqV (.str "-") (.str "*") = some false := by rw [eqV_str]; decide +kernel
@[simp] theorem q_2_4 : Ev.eqV (.str "-") (.str "=") = some false := by rw [eqV_str]; decide +kernel
@[simp] theorem q_2_5 : Ev.eqV (.str "-") (.str "<") = some false := by rw [eqV_str]; decide +kernel
@[simp] theorem q_2_6 : Ev.eqV (.str "-") (.str "and") = some false := by rw [eqV_str]; decide +kernel
@[simp] theorem q_2_7 : Ev.eqV (.str "-") (.str "or") = some false := by rw [eqV_str]; decide +kernel
@[simp] theorem q_2_8 : Ev.eqV (.str "-") (.str "not") = some false := by rw [eqV_str]; decide +kernel
@[simp] theorem q_3_0 : Ev.eqV (.str "*") (.str "item") = some false := by rw [eqV_str]; decide +kernel
@[simp] theorem q_3_1 : Ev.eqV (.str "*") (.str "+") = some false := by rw [eqV_str]; decide +kernel
@[simp] theorem q_3_2 : Ev.eqV (.str "*") (.str "-") = some false := by rw [eqV_str]; decide +kernel
@[simp] theorem q_3_3 : Ev.eqV (.str "*") (.str "*") = some true := by rw [eqV_str]; decide +kernel
@[simp] theorem q_3_4 : Ev.eqV (.str "*") (.str "=") = some false := by rw [eqV_str]; decide +kernel
@[simp] theorem q_3_5 : Ev.eqV (.str "*") (.str "<") = some false := by rw [eqV_str]; decide +kernel
@[simp] theorem q_3_6 : Ev.eqV (.str "*") (.str "and") = some false := by rw [eqV_str]; decide +kernel
@[simp] theorem q_3_7 : Ev.eqV (.str "*") (.str "or") = some false := by rw [eqV_str]; decide +kernel
@[simp] theorem q_3_8 : Ev.eqV (.str "*") (.str "not") = some false := by rw [eqV_str]; decide +kernel
@[simp] theorem q_4_0 : Ev.eqV (.str "=") (.str "item") = some false := by rw [eqV_str]; decide +kernel
@[simp] theorem q_4_1 : Ev.eqV (.str "=") (.str "+") = some false := by rw [eqV_str]; decide +kernel
@[simp] theorem q_4_2 : Ev.eqV (.str "=") (.str "-") = some false := by rw [eqV_str]; decide +kernel
@[simp] theorem q_4_3 : Ev.eqV (.str "=") (.str "*") = some false := by rw [eqV_str]; decide +kernel
@[simp] theorem q_4_4 : Ev.eqV (.str "=") (.str "=") = some true := by rw [eqV_str]; decide +kernel
@[simp] theorem q_4_5 : Ev.eqV (.str "=") (.str "<") = some false := by rw [eqV_str]; decide +kernel
@[simp] theorem q_4_6 : Ev.eqV (.str "=") (.str "and") = some false := by rw [eqV_str]; decide +kernel
@[simp] theorem q_4_7 : Ev.eqV (.str "=") (.str "or") = some false := by rw [eqV_str]; decide +kernel
@[simp] theorem q_4_8 : Ev.eqV (.str "=") (.str "not") = some false := by rw [eqV_str]; decide +kernel
@[simp] theorem q_5_0 : Ev.eqV (.str "<") (.str "item") = some false := by rw [eqV_str]; decide +kernel
@[simp] theorem q_5_1 : Ev.eqV (.str "<") (.str "+") = some false := by rw [eqV_str]; decide +kernel
@[simp] theorem q_5_2 : Ev.eqV (.str "<") (.str "-") = some false := by rw [eqV_str]; decide +kernel
@[simp] theorem q_5_3 : Ev.eqV (.str "<") (.str "*") = some false := by rw [eqV_str]; decide +kernel
@[simp] theorem q_5_4 : Ev.eqV (.str "<") (.str "=") = some false := by rw [eqV_str]; decide +kernel
@[simp] theorem q_5_5 : Ev.eqV (.str "<") (.str "<") = some true := by rw [eqV_str]; decide +kernel
@[simp] theorem q_5_6 : Ev.eqV (.str "<") (.str "and") = some false := by rw [eqV_str]; decide +kernel
@[simp] theorem q_5_7 : Ev.eqV (.str "<") (.str "or") = some false := by rw [eqV_str]; decide +kernel
@[simp] theorem q_5_8 : Ev.eqV (.str "<") (.str "not") = some false := by rw [eqV_str]; decide +kernel
@[simp] theorem q_6_0 : Ev.eqV (.str "and") (.str "item") = some false := by rw [eqV_str]; decide +kernel
@[simp] theorem q_6_1 : Ev.eqV (.str "and") (.str "+") = some false := by rw [eqV_str]; decide +kernel
@[simp] theorem q_6_2 : Ev.eqV (.str "and") (.str "-") = some false := by rw [eqV_str]; decide +kernel
@[simp] theorem q_6_3 : Ev.eqV (.str "and") (.str "*") = some false := by rw [eqV_str]; decide +kernel
@[simp] theorem q_6_4 : Ev.eqV (.str "and") (.str "=") = some false := by rw [eqV_str]; decide +kernel
@[simp] theorem q_6_5 : Ev.eqV (.str "and") (.str "<") = some false := by rw [eqV_str]; decide +kernel
@[simp] theorem q_6_6 : Ev.eqV (.str "and") (.str "and") = some true := by rw [eqV_str]; decide +kernel
@[simp] theorem q_6_7 : Ev.eqV (.str "and") (.str "or") = some false := by rw [eqV_str]; decide +kernel
@[simp] theorem q_6_8 : Ev.eqV (.str "and") (.str "not") = some false := by rw [eqV_str]; decide +kernel
@[simp] theorem q_7_0 : Ev.eqV (.str "or") (.str "item") = some false := by rw [eqV_str]; decide +kernel
@[simp] theorem q_7_1 : Ev.eqV (.str "or") (.str "+") = some false := by rw [eqV_str]; decide +kernel
@[simp] theorem q_7_2 : Ev.eqV (.str "or") (.str "-") = some false := by rw [eqV_str]; decide +kernel
@[simp] theorem q_7_3 : Ev.eqV (.str "or") (.str "*") = some false := by rw [eqV_str]; decide +kernel
@[simp] theorem q_7_4 : Ev.eqV (.str "or") (.str "=") = some false := by rw [eqV_str]; decide +kernel
@[simp] theorem q_7_5 : Ev.eqV (.str "or") (.str "<") = some false := by rw [eqV_str]; decide +kernel
@[simp] theorem q_7_6 : Ev.eqV (.str "or") (.str "and") = some false := by rw [eqV_str]; decide +kernel
@[simp] theorem q_7_7 : Ev.eqV (.str "or") (.str "or") = some true := by rw [eqV_str]; decide +kernel
@[simp] theorem q_7_8 : Ev.eqV (.str "or") (.str "not") = some false := by rw [eqV_str]; decide +kernel
@[simp] theorem q_8_0 : Ev.eqV (.str "not") (.str "item") = some false := by rw [eqV_str]; decide +kernel
@[simp] theorem q_8_1 : Ev.eqV (.str "not") (.str "+") = some false := by rw [eqV_str]; decide +kernel
@[simp] theorem q_8_2 : Ev.eqV (.str "not") (.str "-") = some false := by rw [eqV_str]; decide +kernel
@[simp] theorem q_8_3 : Ev.eqV (.str "not") (.str "*") = some false := by rw [eqV_str]; decide +kernel
@[simp] theorem q_8_4 : Ev.eqV (.str "not") (.str "=") = some false := by rw [eqV_str]; decide +kernel
@[simp] theorem q_8_5 : Ev.eqV (.str "not") (.str "<") = some false := by rw [eqV_str]; decide +kernel
@[simp] theorem q_8_6 : Ev.eqV (.str "not") (.str "and") = some false := by rw [eqV_str]; decide +kernel
@[simp] theorem q_8_7 : Ev.eqV (.str "not") (.str "or") = some false := by rw [eqV_str]; decide +kernel
@[simp] theorem q_8_8 : Ev.eqV (.str "not") (.str "not") = some true := by rw [eqV_str]; decide +kernel
/-- the reader, with at most so many draws behind it -/
def Rd (ns : List Int) (T : Nat) (st : Cel) : Prop := ∃ a b c : Int, st = [.lst [.lst (zs ns), .int a, .int b, .int c]] ∧ 0 ≤ a ∧ 0 ≤ b ∧ 0 ≤ c ∧ c ≤ T
theorem Rd.mono {ns : List Int} {T T' : Nat} {st : Cel} (h : Rd ns T st) (hT : T ≤ T') : Rd ns T' st := by
  obtain ⟨a, b, c, e, h1, h2, h3, h4⟩ := h
  exact ⟨a, b, c, e, h1, h2, h3, by omega⟩
theorem draw {ns : List Int} {T n : Nat} {st : Cel} {m : Int} {Q : Kp PV} (h : Rd ns T st) (hT : T < 1000000) (h1 : 1 ≤ m) (h2 : m < 1000000000) (hQ : ∀ d st', 0 ≤ d → d < m → Rd ns (T + 1) st' → Q.run (.int d) st') : @R.w _ (P (n + 1) 7 [.cell 0, .int m] st) Q := by
  obtain ⟨a, b, c, rfl, ha, hb, hc, hc2⟩ := h
  apply s__law_draw
  unfold b__law_draw
  simp (disch := omega) [bin_mod, bin_fdiv]
  split
  · exact hQ _ _ (Int.emod_nonneg _ (by omega)) (Int.emod_lt_of_pos _ (by omega)) ⟨_, _, _, rfl, ha, Int.ediv_nonneg hb (by omega), by omega, by omega⟩
  split
  · rename_i hn
    subst hn
    simp (disch := omega) [bin_mod, bin_fdiv, bin_mulc, bin_pow5]
    exact hQ _ _ (Int.emod_nonneg _ (by omega)) (Int.emod_lt_of_pos _ (by omega)) ⟨_, _, _, rfl, by omega, hb, by omega, by omega⟩
  · rename_i hn
    have hl : 0 < ns.length := List.length_pos_iff.mpr hn
    obtain ⟨x, hx, hm⟩ := atP_mem (xs := zs ns) (i := a % (ns.length : Int)) (Int.emod_nonneg _ (by omega)) (by rw [zs_length]; exact Int.emod_lt_of_pos _ (by omega))
    obtain ⟨k, hk, rfl⟩ := List.mem_map.mp hm
    simp (disch := omega) [bin_mod, bin_fdiv, bin_mulc, bin_pow5, hx]
    split
    · rename_i hk
      have : 0 ≤ k / m := Int.ediv_nonneg (by omega) (by omega)
      split
      · exact hQ _ _ (Int.emod_nonneg _ (by omega)) (Int.emod_lt_of_pos _ (by omega)) ⟨_, _, _, rfl, by omega, this, by omega, by omega⟩
      · exact hQ _ _ (Int.emod_nonneg _ (by omega)) (Int.emod_lt_of_pos _ (by omega)) ⟨_, _, _, rfl, by omega, hb, by omega, by omega⟩
    · exact hQ _ _ (Int.emod_nonneg _ (by omega)) (Int.emod_lt_of_pos _ (by omega)) ⟨_, _, _, rfl, by omega, hb, by omega, by omega⟩
end K05
namespace K05
open PySem L2 Ev
/-! ### items, states, expressions -/
abbrev It := List (Str × Int × Int)
def entV (E : It) : PV := .tup (E.map fun e => .tup [.str e.1, .int e.2.1, .int e.2.2])
def slots (E : It) : PV := .tup (E.map fun e => .str e.1)
def nm (E : It) (j : Nat) : Str := ((E[j]?).map (·.1)).getD ""
def GoodE (E : It) : Prop := (∃ s l h, E = [(s, l, h)] ∧ PyData.strOk s = true) ∨ (∃ s l h t l' h', E = [(s, l, h), (t, l', h')] ∧ s ≠ t ∧ PyData.strOk s = true ∧ PyData.strOk t = true)
inductive Op where | add | sub | mul
def Op.s : Op → Str
  | .add => "+"
  | .sub => "-"
  | .mul => "*"
def Op.f : Op → Int → Int → Int
  | .add, a, b => a + b
  | .sub, a, b => a - b
  | .mul, a, b => a * b
inductive NX where | lit (i : Int) | item (j : Nat) | op (o : Op) (a b : NX)
def NX.pv (E : It) : NX → PV
  | .lit i => .int i
  | .item j => .tup [.str "item", .str (nm E j)]
  | .op o a b => .tup [.str o.s, a.pv E, b.pv E]
def NX.val (xs : List Int) : NX → Int
  | .lit i => i
  | .item j => xs.getD j 0
  | .op o a b => o.f (a.val xs) (b.val xs)
def NX.ok (k : Nat) : NX → Prop
  | .lit _ => True
  | .item j => j < k
  | .op _ a b => a.ok k ∧ b.ok k
def NX.dep : NX → Nat
  | .op _ a b => a.dep + b.dep + 1
  | _ => 0
/-- the values stay small -/
def NX.sm (xs : List Int) : NX → Prop
  | .op o a b => a.sm xs ∧ b.sm xs ∧ -1000000000000 < a.val xs ∧ a.val xs < 1000000000000
  | _ => True
theorem index_ok {E : It} (g : GoodE E) {j : Nat} (h : j < E.length) : indexV (.lst (E.map fun e => .str e.1)) (.str (nm E j)) = some (.int (j : Nat)) := by
  rcases g with ⟨s, l, hh, rfl, h1⟩ | ⟨s, l, hh, t, l', h', rfl, hne, h1, h2⟩
  · match j, h with
    | 0, _ => simp [indexV, PV.data, PV.dataL, nm, SeqAt.shaped, PyData.canLay0, PyData.canLayAll0, PyData.depth, PyData.depthAll, h1, indexD, PyData.eqv]
  · match j, h with
    | 0, _ => simp [indexV, PV.data, PV.dataL, nm, SeqAt.shaped, PyData.canLay0, PyData.canLayAll0, PyData.depth, PyData.depthAll, h1, h2, indexD, PyData.eqv]
    | 1, _ => simp [indexV, PV.data, PV.dataL, nm, SeqAt.shaped, PyData.canLay0, PyData.canLayAll0, PyData.depth, PyData.depthAll, h1, h2, indexD, PyData.eqv, hne]
theorem is_integer_int {n : Nat} {st : Cel} {i : Int} {Q : Kp PV} (q : Q.run (.bl true) st) : @R.w _ (P (n + 1) 2 [.int i] st) Q := by
  apply s_is_integer; unfold b_is_integer
  simpa using q
theorem is_integer_tup {n : Nat} {st : Cel} {xs : List PV} {Q : Kp PV} (q : Q.run (.bl false) st) : @R.w _ (P (n + 1) 2 [.tup xs] st) Q := by
  apply s_is_integer; unfold b_is_integer
  simpa using q
theorem names_of_ok {n : Nat} {st : Cel} {E : It} {Q : Kp PV} (g : E.length ≤ 1000) (q : Q.run (.lst (E.map fun e => .str e.1)) st) : @R.w _ (P (n + 1) 3 [entV E] st) Q := by
  apply s_names_of; unfold b_names_of entV
  simp
  refine compL_wmap (fun x => match x with
    | .tup (a :: _) => a
    | _ => .non) ?_ ?_
  · intro x hx
    obtain ⟨e, _, rfl⟩ := List.mem_map.mp hx
    apply R.w_is
    rw [w_turn]
    simp
  · rw [Kp_run, List.map_map, List.length_map, szOk_of (by omega)]
    simp only [if_true, R.w_ok]
    exact q
theorem atP_zs {xs : List Int} {j : Nat} (h : j < xs.length) : atP (zs xs) (j : Int) = some (.int (xs.getD j 0)) := by
  rw [atP_nat (by simpa using h)]
  simp [zs, List.getD, List.getElem?_eq_getElem h]
theorem value_ok {E : It} (g : GoodE E) {xs : List Int} (hx : xs.length = E.length) (st : Cel) : ∀ (x : NX) (n : Nat) {Q : Kp PV}, x.ok E.length → x.sm xs → x.dep + 2 ≤ n → Q.run (.int (x.val xs)) st → @R.w _ (P n 4 [entV E, .tup (zs xs), x.pv E] st) Q
  | .lit i, n + 2, Q, _, _, _, q => by
    show @R.w _ (P _ 4 [entV E, .tup (zs xs), .int i] st) Q
    apply s_value_in; unfold b_value_in
    simp
    apply is_integer_int
    simp
    exact q
  | .item j, n + 2, Q, ho, _, _, q => by
    have hj : j < E.length := ho
    have hl : E.length ≤ 1000 := by rcases g with ⟨s, l, hh, rfl, h1⟩ | ⟨s, l, hh, t, l', h', rfl, hne, h1, h2⟩ <;> simp
    show @R.w _ (P _ 4 [entV E, .tup (zs xs), .tup [.str "item", .str (nm E j)]] st) Q
    apply s_value_in; unfold b_value_in
    simp
    apply is_integer_tup
    simp
    apply names_of_ok hl
    simp [index_ok g hj]
    rw [atP_zs (by omega), R.of_some, R.w_ok]
    exact q
  | .op o a b, n + 2, Q, ⟨ha, hb⟩, ⟨sa, sb, lo, hi⟩, hn, q => by
    have hn : a.dep + b.dep + 1 + 2 ≤ n + 2 := hn
    show @R.w _ (P _ 4 [entV E, .tup (zs xs), .tup [.str o.s, a.pv E, b.pv E]] st) Q
    apply s_value_in; unfold b_value_in
    simp
    apply is_integer_tup
    cases o with
    | add =>
      change @Kp.run PV Q (.int (a.val xs + b.val xs)) st at q
      simp [Op.s]
      refine value_ok g hx st a (n + 1) ha sa (by omega) ?_
      simp
      refine value_ok g hx st b (n + 1) hb sb (by omega) ?_
      simp
      exact q
    | sub =>
      change @Kp.run PV Q (.int (a.val xs - b.val xs)) st at q
      simp [Op.s]
      refine value_ok g hx st a (n + 1) ha sa (by omega) ?_
      simp
      refine value_ok g hx st b (n + 1) hb sb (by omega) ?_
      simp
      exact q
    | mul =>
      change @Kp.run PV Q (.int (a.val xs * b.val xs)) st at q
      simp [Op.s]
      refine value_ok g hx st a (n + 1) ha sa (by omega) ?_
      simp
      refine value_ok g hx st b (n + 1) hb sb (by omega) ?_
      simp (disch := omega) [bin_mulc]
      exact q
/-! ### conditions -/
inductive CX where | rel (w : Bool) (a b : NX) | no (c : CX) | bin (w : Bool) (a b : CX)
def CX.pv (E : It) : CX → PV
  | .rel true a b => .tup [.str "=", a.pv E, b.pv E]
  | .rel false a b => .tup [.str "<", a.pv E, b.pv E]
  | .no c => .tup [.str "not", c.pv E]
  | .bin true a b => .tup [.str "and", a.pv E, b.pv E]
  | .bin false a b => .tup [.str "or", a.pv E, b.pv E]
def CX.val (xs : List Int) : CX → Bool
  | .rel true a b => a.val xs == b.val xs
  | .rel false a b => decide (a.val xs < b.val xs)
  | .no c => !c.val xs
  | .bin true a b => a.val xs && b.val xs
  | .bin false a b => a.val xs || b.val xs
def CX.ok (k : Nat) : CX → Prop
  | .rel _ a b => a.ok k ∧ b.ok k
  | .no c => c.ok k
  | .bin _ a b => a.ok k ∧ b.ok k
def CX.sm (xs : List Int) : CX → Prop
  | .rel _ a b => a.sm xs ∧ b.sm xs
  | .no c => c.sm xs
  | .bin _ a b => a.sm xs ∧ b.sm xs
def CX.dep : CX → Nat
  | .rel _ a b => a.dep + b.dep + 1
  | .no c => c.dep + 1
  | .bin _ a b => a.dep + b.dep + 1
theorem holds_ok {E : It} (g : GoodE E) {xs : List Int} (hx : xs.length = E.length) (st : Cel) : ∀ (x : CX) (n : Nat) {Q : Kp PV}, x.ok E.length → x.sm xs → x.dep + 2 ≤ n → Q.run (.bl (x.val xs)) st → @R.w _ (P n 5 [entV E, .tup (zs xs), x.pv E] st) Q
  | .rel w a b, n + 2, Q, ⟨ha, hb⟩, ⟨sa, sb⟩, hn, q => by
    have hn : a.dep + b.dep + 1 + 2 ≤ n + 2 := hn
    cases w with
    | true =>
      show @R.w _ (P _ 5 [entV E, .tup (zs xs), .tup [.str "=", a.pv E, b.pv E]] st) Q
      apply s_holds_in; unfold b_holds_in
      simp
      refine value_ok g hx st a (n + 1) ha sa (by omega) ?_
      simp
      refine value_ok g hx st b (n + 1) hb sb (by omega) ?_
      simp
      exact q
    | false =>
      show @R.w _ (P _ 5 [entV E, .tup (zs xs), .tup [.str "<", a.pv E, b.pv E]] st) Q
      apply s_holds_in; unfold b_holds_in
      simp
      refine value_ok g hx st a (n + 1) ha sa (by omega) ?_
      simp
      refine value_ok g hx st b (n + 1) hb sb (by omega) ?_
      simp
      exact q
  | .no c, n + 2, Q, ho, hs, hn, q => by
    have hn : c.dep + 1 + 2 ≤ n + 2 := hn
    show @R.w _ (P _ 5 [entV E, .tup (zs xs), .tup [.str "not", c.pv E]] st) Q
    apply s_holds_in; unfold b_holds_in
    simp
    refine holds_ok g hx st c (n + 1) ho hs (by omega) ?_
    simp
    exact q
  | .bin w a b, n + 2, Q, ⟨ha, hb⟩, ⟨sa, sb⟩, hn, q => by
    have hn : a.dep + b.dep + 1 + 2 ≤ n + 2 := hn
    cases w with
    | true =>
      show @R.w _ (P _ 5 [entV E, .tup (zs xs), .tup [.str "and", a.pv E, b.pv E]] st) Q
      change @Kp.run PV Q (.bl (a.val xs && b.val xs)) st at q
      apply s_holds_in; unfold b_holds_in
      simp
      refine holds_ok g hx st a (n + 1) ha sa (by omega) ?_
      simp
      split
      · refine holds_ok g hx st b (n + 1) hb sb (by omega) ?_
        simp_all
      · simp_all
    | false =>
      show @R.w _ (P _ 5 [entV E, .tup (zs xs), .tup [.str "or", a.pv E, b.pv E]] st) Q
      change @Kp.run PV Q (.bl (a.val xs || b.val xs)) st at q
      apply s_holds_in; unfold b_holds_in
      simp
      refine holds_ok g hx st a (n + 1) ha sa (by omega) ?_
      simp
      split
      · simp_all
      · refine holds_ok g hx st b (n + 1) hb sb (by omega) ?_
        simp_all
/-! ### sums -/
theorem comp_zip {f : PV → Cel → R (Option PV)} {st : Cel} (h : Int → Int → Int) (hf : ∀ i j, f (.tup [.int i, .int j]) st = .ok (some (.int (h i j))) st) : ∀ a b : List Int, compL f (((zs a).zip (zs b)).map fun p => .tup [p.1, p.2]) st = .ok (zs (List.zipWith h a b)) st
  | [], b => rfl
  | x :: a, [] => rfl
  | x :: a, y :: b => by
    show compL f (.tup [.int x, .int y] :: ((zs a).zip (zs b)).map fun p => .tup [p.1, p.2]) st = _
    rw [compL, hf]
    show (compL f _ st).bind _ = _
    rw [comp_zip h hf a b]
    rfl
theorem compL_wzs {f : PV → Cel → R (Option PV)} {xs : List Int} {st : Cel} {Q : Kp (List PV)} (g : Int → Int) (h : ∀ i, f (.int i) st = .ok (some (.int (g i))) st) (q : Q.run (zs (xs.map g)) st) : @R.w _ (compL f (zs xs) st) Q := by
  refine compL_wmap (fun x => match x with
    | .int i => .int (g i)
    | _ => .non) ?_ ?_
  · intro x hx
    obtain ⟨i, _, rfl⟩ := List.mem_map.mp hx
    exact h i
  · unfold zs at q ⊢
    rw [List.map_map] at q ⊢
    exact q
def plus (a b : List Int) : List Int := List.zipWith (· + ·) a b
structure AddI (Q : Kp PV) (st : Cel) (r : List PV) (ρ : En) (s : Cel) : Prop where
  ex : s = st ∧ ∃ (c : List Int) (bs : List (List Int)) (x y z : Slot), c.length ≤ 1000 ∧ r = bs.map (fun b => PV.tup (zs b)) ∧ ρ = [x, y, .val (.tup (zs c)), z, .emp, .emp] ∧ Q.run (.tup (zs (bs.foldl plus c))) st
theorem added_ok {n : Nat} {st : Cel} {Q : Kp PV} (a : List Int) (bs : List (List Int)) (ha : a.length ≤ 1000) (hl : bs.length ≤ 1000) (q : Q.run (.tup (zs (bs.foldl plus a))) st) : @R.w _ (P (n + 1) 0 (.tup (zs a) :: bs.map fun b => .tup (zs b)) st) Q := by
  refine s_added (szOk_of (by rw [List.length_map]; omega)) ?_
  unfold b_added
  simp
  refine forL_w (AddI Q st) ⟨rfl, a, bs, _, _, _, ha, rfl, rfl, q⟩ ?_ ?_
  · rintro x r ρ s ⟨rfl, c, bs, x1, y1, z1, hc, e, rfl, q⟩
    cases bs with
    | nil => cases e
    | cons b bs =>
      cases e
      rw [bodyL_1]
      simp
      rw [comp_zip (· + ·)]
      · have hl : (List.zipWith (· + ·) c b).length ≤ 1000 := by rw [List.length_zipWith]; omega
        simp (disch := omega) [szOk_of]
        exact ⟨rfl, _, bs, _, _, _, hl, rfl, rfl, q⟩
      · intro i j
        apply R.w_is
        rw [w_turn]
        simp
  · rintro ρ s ⟨rfl, c, bs, x1, y1, z1, hc, e, rfl, q⟩
    cases bs with
    | nil => simpa using q
    | cons b bs => cases e
theorem added1 {n : Nat} {st : Cel} {Q : Kp PV} (a : List Int) (ha : a.length ≤ 1000) (q : Q.run (.tup (zs a)) st) : @R.w _ (P (n + 1) 0 [.tup (zs a)] st) Q := added_ok a [] ha (by simp) q
theorem added2 {n : Nat} {st : Cel} {Q : Kp PV} (a b : List Int) (ha : a.length ≤ 1000) (q : Q.run (.tup (zs (plus a b))) st) : @R.w _ (P (n + 1) 0 [.tup (zs a), .tup (zs b)] st) Q := added_ok a [b] ha (by simp) q
theorem added3 {n : Nat} {st : Cel} {Q : Kp PV} (a b c : List Int) (ha : a.length ≤ 1000) (q : Q.run (.tup (zs (plus (plus a b) c))) st) : @R.w _ (P (n + 1) 0 [.tup (zs a), .tup (zs b), .tup (zs c)] st) Q := added_ok a [b, c] ha (by simp) q
theorem zero_sum_ok {n : Nat} {st : Cel} {Q : Kp PV} (m : Nat) (h : 1 ≤ m) (h2 : m ≤ 2) (q : Q.run (.tup (zs (List.replicate m 0))) st) : @R.w _ (P (n + 1) 1 [.int m] st) Q := by
  apply s_zero_sum; unfold b_zero_sum
  rcases (by omega : m = 1 ∨ m = 2) with rfl | rfl
  · simp
    rw [show binV .mul (.tup [.int 0]) (.int 1) = some (.tup (zs (List.replicate 1 0))) from rfl, R.of_some, R.w_ok]
    exact q
  · simp
    rw [show binV .mul (.tup [.int 0]) (.int 2) = some (.tup (zs (List.replicate 2 0))) from rfl, R.of_some, R.w_ok]
    exact q
/-! ### what is drawn -/
theorem pick {xs : List PV} {P : PV → Prop} {i : Int} (h : ∀ x ∈ xs, P x) (h0 : 0 ≤ i) (h1 : i < xs.length) : ∃ x, atP xs i = some x ∧ P x := by
  obtain ⟨x, e, m⟩ := atP_mem h0 h1
  exact ⟨x, e, h x m⟩
def NX.bd : NX → Nat
  | .lit i => i.natAbs
  | .item _ => 24
  | .op _ a b => a.bd * b.bd + a.bd + b.bd
def NX.fine : NX → Prop
  | .op _ a b => a.fine ∧ b.fine ∧ a.bd ≤ 1000000
  | _ => True
theorem NX.val_le {xs : List Int} (hx : ∀ x ∈ xs, x.natAbs ≤ 24) : ∀ x : NX, (x.val xs).natAbs ≤ x.bd
  | .lit i => Nat.le_refl _
  | .item j => by
    show (xs.getD j 0).natAbs ≤ 24
    rw [List.getD_eq_getElem?_getD]
    cases e : xs[j]? with
    | none => simp
    | some v => exact hx v (List.mem_of_getElem? e)
  | .op o a b => by
    have h1 := NX.val_le hx a
    have h2 := NX.val_le hx b
    have h3 : (a.val xs * b.val xs).natAbs ≤ a.bd * b.bd := by rw [Int.natAbs_mul]; exact Nat.mul_le_mul h1 h2
    cases o with
    | add => show (a.val xs + b.val xs).natAbs ≤ a.bd * b.bd + a.bd + b.bd; have := Nat.zero_le (a.bd * b.bd); omega
    | sub => show (a.val xs - b.val xs).natAbs ≤ a.bd * b.bd + a.bd + b.bd; have := Nat.zero_le (a.bd * b.bd); omega
    | mul => show (a.val xs * b.val xs).natAbs ≤ a.bd * b.bd + a.bd + b.bd; omega
theorem NX.sm_of {xs : List Int} (hx : ∀ x ∈ xs, x.natAbs ≤ 24) : ∀ x : NX, x.fine → x.sm xs
  | .lit _, _ => trivial
  | .item _, _ => trivial
  | .op o a b, ⟨fa, fb, h⟩ => by
    have h1 := NX.val_le hx a
    exact ⟨NX.sm_of hx a fa, NX.sm_of hx b fb, by omega, by omega⟩
def CX.fine : CX → Prop
  | .rel _ a b => a.fine ∧ b.fine
  | .no c => c.fine
  | .bin _ a b => a.fine ∧ b.fine
theorem CX.sm_of {xs : List Int} (hx : ∀ x ∈ xs, x.natAbs ≤ 24) : ∀ x : CX, x.fine → x.sm xs
  | .rel _ a b, h => ⟨a.sm_of hx h.1, b.sm_of hx h.2⟩
  | .no c, h => CX.sm_of hx c h
  | .bin _ a b, h => ⟨CX.sm_of hx a h.1, CX.sm_of hx b h.2⟩
theorem GoodE.len {E : It} (g : GoodE E) : 1 ≤ E.length ∧ E.length ≤ 2 := by
  rcases g with ⟨s, l, hh, rfl, h1⟩ | ⟨s, l, hh, t, l', h', rfl, hne, h1, h2⟩ <;> simp
theorem leaf {E : It} (g : GoodE E) {ns : List Int} {T n : Nat} {st : Cel} {Q : Kp PV} (h : Rd ns T st) (hT : T < 100000) (q : ∀ (x : NX) st', x.ok E.length → x.dep = 0 → x.fine → x.bd ≤ 24 → Rd ns (T + 2) st' → Q.run (x.pv E) st') : @R.w _ (P (n + 2) 8 [.cell 0, slots E] st) Q := by
  obtain ⟨l1, l2⟩ := g.len
  unfold slots
  apply s__law_leaf; unfold b__law_leaf
  simp
  refine draw h (by omega) (by omega) (by omega) fun d st1 d0 d1 h1 => ?_
  simp
  split
  · refine draw h1 (by omega) (by omega) (by omega) fun d st2 d0 d1 h2 => ?_
    obtain ⟨x, hx, i, rfl, hi⟩ := pick (xs := [.int 0, .int 1, .int 2, .int (-1), .int 3, .int (-7), .int 12, .int 1]) (P := fun x => ∃ i : Int, x = .int i ∧ i.natAbs ≤ 24) (by simp) d0 (by simpa using d1)
    simp [hx]
    exact q (.lit i) st2 trivial rfl trivial hi h2
  · refine draw h1 (by omega) (by omega) (by omega) fun d st2 d0 d1 h2 => ?_
    obtain ⟨j, rfl⟩ := Int.eq_ofNat_of_zero_le d0
    have hj : j < E.length := by omega
    have e : atP (E.map fun e => PV.str e.1) (j : Int) = some (.str (nm E j)) := by
      rw [atP_nat (by simpa using hj)]
      simp [nm, List.getElem?_eq_getElem hj]
    simp [e]
    exact q (.item j) st2 hj rfl trivial (Nat.le_refl _) h2
theorem number0 {E : It} (g : GoodE E) {ns : List Int} {T n : Nat} {dp : Int} {st : Cel} {Q : Kp PV} (h : Rd ns T st) (hT : T < 90000) (hd : dp < 1) (q : ∀ (x : NX) st', x.ok E.length → x.dep = 0 → x.fine → x.bd ≤ 24 → Rd ns (T + 3) st' → Q.run (x.pv E) st') : @R.w _ (P (n + 3) 9 [.cell 0, slots E, .int dp] st) Q := by
  apply s__law_number; unfold b__law_number
  simp
  refine draw h (by omega) (by omega) (by omega) fun d st1 d0 d1 h1 => ?_
  simp [hd]
  refine leaf g h1 (by omega) fun x st2 a b c d h2 => ?_
  simp
  exact q x st2 a b c d h2
theorem number1 {E : It} (g : GoodE E) {ns : List Int} {T n : Nat} {st : Cel} {Q : Kp PV} (h : Rd ns T st) (hT : T < 80000) (q : ∀ (x : NX) st', x.ok E.length → x.dep ≤ 1 → x.fine → x.bd ≤ 1000 → Rd ns (T + 7) st' → Q.run (x.pv E) st') : @R.w _ (P (n + 4) 9 [.cell 0, slots E, .int 1] st) Q := by
  apply s__law_number; unfold b__law_number
  simp
  refine draw h (by omega) (by omega) (by omega) fun d st1 d0 d1 h1 => ?_
  simp
  split
  · refine leaf g h1 (by omega) fun x st2 a b c d h2 => ?_
    simp
    exact q x st2 a (by omega) c (by omega) (h2.mono (by omega))
  · refine number0 g h1 (by omega) (by omega) fun x st2 a b c e h2 => ?_
    obtain ⟨w, hw, o, rfl⟩ := pick (xs := [.str "+", .str "-", .str "*"]) (i := d - 1) (P := fun x => ∃ o : Op, x = .str o.s) (by
      intro x hx
      simp at hx
      rcases hx with rfl | rfl | rfl
      · exact ⟨.add, rfl⟩
      · exact ⟨.sub, rfl⟩
      · exact ⟨.mul, rfl⟩) (by omega) (by simp; omega)
    simp [hw]
    refine number0 g h2 (by omega) (by omega) fun y st3 a2 b2 c2 e2 h3 => ?_
    simp
    refine q (.op o x y) st3 ⟨a, a2⟩ ?_ ⟨c, c2, by omega⟩ ?_ (h3.mono (by omega))
    · show x.dep + y.dep + 1 ≤ 1; omega
    · show x.bd * y.bd + x.bd + y.bd ≤ 1000
      have := Nat.mul_le_mul e e2
      omega
theorem condition0 {E : It} (g : GoodE E) {ns : List Int} {T n : Nat} {dp : Int} {st : Cel} {Q : Kp PV} (h : Rd ns T st) (hT : T < 80000) (hd : dp < 1) (q : ∀ (x : CX) st', x.ok E.length → x.dep ≤ 1 → x.fine → Rd ns (T + 6) st' → Q.run (x.pv E) st') : @R.w _ (P (n + 4) 10 [.cell 0, slots E, .int dp] st) Q := by
  apply s__law_condition; unfold b__law_condition
  simp
  refine draw h (by omega) (by omega) (by omega) fun d st1 d0 d1 h1 => ?_
  simp [hd]
  rcases (by omega : d / 3 = 0 ∨ d / 3 = 1) with e | e
  · simp (disch := omega) [bin_fdiv, e]
    refine leaf g h1 (by omega) fun x st2 a b c d h2 => ?_
    simp
    refine number0 g h2 (by omega) (by omega) fun y st3 a2 b2 c2 e2 h3 => ?_
    simp
    refine q (.rel true x y) st3 ⟨a, a2⟩ ?_ ⟨c, c2⟩ h3
    show x.dep + y.dep + 1 ≤ 1; omega
  · simp (disch := omega) [bin_fdiv, e]
    refine leaf g h1 (by omega) fun x st2 a b c d h2 => ?_
    simp
    refine number0 g h2 (by omega) (by omega) fun y st3 a2 b2 c2 e2 h3 => ?_
    simp
    refine q (.rel false x y) st3 ⟨a, a2⟩ ?_ ⟨c, c2⟩ h3
    show x.dep + y.dep + 1 ≤ 1; omega
theorem condition1 {E : It} (g : GoodE E) {ns : List Int} {T n : Nat} {st : Cel} {Q : Kp PV} (h : Rd ns T st) (hT : T < 70000) (q : ∀ (x : CX) st', x.ok E.length → x.dep ≤ 3 → x.fine → Rd ns (T + 13) st' → Q.run (x.pv E) st') : @R.w _ (P (n + 5) 10 [.cell 0, slots E, .int 1] st) Q := by
  apply s__law_condition; unfold b__law_condition
  simp
  refine draw h (by omega) (by omega) (by omega) fun d st1 d0 d1 h1 => ?_
  simp
  split
  · rcases (by omega : d / 3 = 0 ∨ d / 3 = 1) with e | e
    · simp (disch := omega) [bin_fdiv, e]
      refine leaf g h1 (by omega) fun x st2 a b c d h2 => ?_
      simp
      refine number0 g h2 (by omega) (by omega) fun y st3 a2 b2 c2 e2 h3 => ?_
      simp
      refine q (.rel true x y) st3 ⟨a, a2⟩ ?_ ⟨c, c2⟩ (h3.mono (by omega))
      show x.dep + y.dep + 1 ≤ 3; omega
    · omega
  · refine condition0 g h1 (by omega) (by omega) fun x st2 a b c h2 => ?_
    simp
    split
    · exact q (.no x) st2 a (by show x.dep + 1 ≤ 3; omega) c (h2.mono (by omega))
    · rcases (by omega : d - 4 = 0 ∨ d - 4 = 1) with e | e
      · simp [e]
        refine condition0 g h2 (by omega) (by omega) fun y st3 a2 b2 c2 h3 => ?_
        simp
        exact q (.bin true x y) st3 ⟨a, a2⟩ (by show x.dep + y.dep + 1 ≤ 3; omega) ⟨c, c2⟩ h3
      · simp [e]
        refine condition0 g h2 (by omega) (by omega) fun y st3 a2 b2 c2 h3 => ?_
        simp
        exact q (.bin false x y) st3 ⟨a, a2⟩ (by show x.dep + y.dep + 1 ≤ 3; omega) ⟨c, c2⟩ h3
theorem slots_ok {n : Nat} {st : Cel} {E : It} {Q : Kp PV} (g : GoodE E) (q : Q.run (slots E) st) : @R.w _ (P (n + 1) 12 [entV E] st) Q := by
  apply s__law_slots; unfold b__law_slots entV
  simp
  refine compL_wmap (fun x => match x with
    | .tup (a :: _) => a
    | _ => .non) ?_ ?_
  · intro x hx
    obtain ⟨e, _, rfl⟩ := List.mem_map.mp hx
    apply R.w_is
    rw [w_turn]
    simp
  · rw [Kp_run, List.map_map, List.length_map, szOk_of (by have := g.len; omega)]
    simp only [if_true, R.w_ok, Kp_run, tupleV_lst, R.of_some]
    exact q
structure RsI (ns : List Int) (T m : Nat) (r acc : List PV) (s : Cel) : Prop where
  ex : ∃ xs : List Int, acc = zs xs ∧ (∀ x ∈ xs, x.natAbs ≤ 12) ∧ xs.length + r.length = m ∧ Rd ns (T + xs.length) s
theorem random_sum {ns : List Int} {T n m : Nat} {st : Cel} {Q : Kp PV} (h : Rd ns T st) (hT : T < 80000) (hm : 1 ≤ m) (hm2 : m ≤ 2) (q : ∀ (xs : List Int) st', xs.length = m → (∀ x ∈ xs, x.natAbs ≤ 12) → Rd ns (T + 2) st' → Q.run (.tup (zs xs)) st') : @R.w _ (P (n + 2) 13 [.cell 0, .int m] st) Q := by
  apply s__law_random_sum; unfold b__law_random_sum
  simp (disch := omega) [rng1V_int]
  refine compL_w (RsI ns T m) ⟨[], rfl, by simp, by simp [rngP], h⟩ ?_ ?_
  · rintro x r acc s ⟨xs, rfl, hb, hl, hr⟩
    rw [w_turn]
    simp
    refine draw hr (by omega) (by omega) (by omega) fun d st2 d0 d1 h2 => ?_
    obtain ⟨x, hx, i, rfl, hi⟩ := pick (xs := [.int 0, .int 1, .int (-1), .int 2, .int (-2), .int 12, .int (-12)]) (P := fun x => ∃ i : Int, x = .int i ∧ i.natAbs ≤ 12) (by simp) d0 (by simpa using d1)
    simp [hx]
    refine ⟨xs ++ [i], by simp [zs], ?_, ?_, ?_⟩
    · intro y hy
      rcases List.mem_append.mp hy with hy | hy
      · exact hb y hy
      · rw [List.mem_singleton.mp hy]; exact hi
    · simp at hl ⊢; omega
    · simpa [Nat.add_assoc] using h2
  · rintro ys s ⟨xs, rfl, hb, hl, hr⟩
    have hl : xs.length = m := by simpa using hl
    simp (disch := omega) [szOk_of]
    exact q xs s hl hb (hr.mono (by omega))
theorem len12 {xs : List Int} {m : Nat} (h : xs.length = m) (h1 : 1 ≤ m) (h2 : m ≤ 2) : (∃ a, xs = [a] ∧ m = 1) ∨ ∃ a b, xs = [a, b] ∧ m = 2 := by
  match xs, h with
  | [a], h => exact .inl ⟨a, rfl, h.symm⟩
  | [a, b], h => exact .inr ⟨a, b, rfl, h.symm⟩
  | [], h => simp at h; omega
  | _ :: _ :: _ :: _, h => simp at h; omega
theorem sum_facts {xs ys zz : List Int} {m : Nat} (lx : xs.length = m) (ly : ys.length = m) (lz : zz.length = m) (hm : 1 ≤ m) (hm2 : m ≤ 2) :
    plus xs (plus ys zz) = plus (plus zz xs) ys ∧ plus xs (List.replicate m 0) = xs ∧ plus (List.replicate m 0) xs = xs ∧ plus xs (xs.map fun i => -i) = List.replicate m 0 ∧ plus (plus xs ys) (xs.map fun i => -i) = ys ∧ plus xs xs = xs.map fun i => 2 * i := by
  rcases len12 lx hm hm2 with ⟨a, rfl, rfl⟩ | ⟨a, b, rfl, rfl⟩
  · rcases len12 ly hm hm2 with ⟨c, rfl, _⟩ | ⟨c, d, rfl, h⟩
    · rcases len12 lz hm hm2 with ⟨e, rfl, _⟩ | ⟨e, f, rfl, h⟩
      · simp [plus, List.replicate]; omega
      · omega
    · omega
  · rcases len12 ly hm hm2 with ⟨c, rfl, h⟩ | ⟨c, d, rfl, _⟩
    · omega
    · rcases len12 lz hm hm2 with ⟨e, rfl, h⟩ | ⟨e, f, rfl, _⟩
      · omega
      · simp [plus, List.replicate]; omega
theorem rng3 : rngP 0 3 = [.int 0, .int 1, .int 2] := rfl
theorem sums_right {ns : List Int} {T n m : Nat} {st : Cel} {Q : Kp PV} (h : Rd ns T st) (hT : T < 70000) (hm : 1 ≤ m) (hm2 : m ≤ 2) (q : ∀ st', Rd ns (T + 6) st' → Q.run (.bl true) st') : @R.w _ (P (n + 3) 17 [.cell 0, .int m] st) Q := by
  apply s__law_sums_right; unfold b__law_sums_right
  simp (disch := omega) [rng1V_int, rng3, w_compL_cons, w_turn]
  refine random_sum h (by omega) hm hm2 fun xs st1 lx bx h1 => ?_
  simp [w_compL_cons, w_turn]
  refine random_sum h1 (by omega) hm hm2 fun ys st2 ly by_ h2 => ?_
  simp [w_compL_cons, w_turn]
  refine random_sum h2 (by omega) hm hm2 fun zz st3 lz bz h3 => ?_
  simp [w_compL_nil]
  refine zero_sum_ok m hm hm2 ?_
  simp
  refine compL_wzs (fun i => -i) ?_ ?_
  · intro i
    apply R.w_is
    rw [w_turn]
    simp
  have l1 : xs.length ≤ 1000 := by omega
  have l2 : ys.length ≤ 1000 := by omega
  have l3 : zz.length ≤ 1000 := by omega
  have l4 : (plus xs ys).length ≤ 1000 := by simp [plus]; omega
  have l5 : (plus ys zz).length ≤ 1000 := by simp [plus]; omega
  simp (disch := omega) [szOk_of]
  refine added2 xs ys l1 ?_
  simp
  refine added2 ys xs l2 ?_
  have e1 : plus xs ys = plus ys xs := by unfold plus; exact List.zipWith_comm_of_comm (fun a b => Int.add_comm a b)
  simp [e1]
  refine added3 xs ys zz l1 ?_
  simp
  refine added2 xs ys l1 ?_
  simp
  refine added2 _ _ l4 ?_
  simp
  refine added2 ys zz l2 ?_
  simp
  refine added2 xs _ l1 ?_
  simp
  refine added3 zz xs ys l3 ?_
  obtain ⟨f1, f2, f3, f4, f5, f6⟩ := sum_facts lx ly lz hm hm2
  have z1 : (List.replicate m (0 : Int)).length ≤ 1000 := by simp; omega
  simp [f1]
  refine added2 xs _ l1 ?_
  simp [f2]
  refine added2 _ xs z1 ?_
  simp [f3]
  refine added2 xs _ l1 ?_
  simp [f4]
  refine added1 xs l1 ?_
  simp
  refine added3 xs ys _ l1 ?_
  simp [f5]
  refine added2 xs xs l1 ?_
  simp
  refine compL_wzs (fun i => 2 * i) ?_ ?_
  · intro i
    apply R.w_is
    rw [w_turn]
    simp (disch := omega) [bin_mulc]
  simp (disch := omega) [szOk_of, f6]
  exact q _ h3
@[simp] theorem lenV_ent (E : It) : lenV (entV E) = some (.int E.length) := by
  show some (PV.int _) = _
  rw [List.length_map]
theorem ixV_ent {st : Cel} {E : It} {j : Nat} (h : j < E.length) : ∃ lo hi, ixV st (entV E) (.int j) = some (.tup [.str (nm E j), .int lo, .int hi]) := by
  refine ⟨E[j].2.1, E[j].2.2, ?_⟩
  show atP _ _ = _
  rw [atP_nat (by simpa using h)]
  simp [nm, List.getElem?_eq_getElem h]
theorem ixV_last {st : Cel} {E : It} (h : 0 < E.length) : ∃ lo hi, ixV st (entV E) (.int (-1)) = some (.tup [.str (nm E (E.length - 1)), .int lo, .int hi]) := by
  refine ⟨E[E.length - 1].2.1, E[E.length - 1].2.2, ?_⟩
  show L2.atI _ _ = _
  unfold L2.atI L2.ixN
  rw [if_neg (by omega), if_pos (by rw [List.length_map]; omega), Option.bind_some]
  have e : (-1 + ((E.map fun e => PV.tup [.str e.1, .int e.2.1, .int e.2.2]).length : Int)).toNat = E.length - 1 := by rw [List.length_map]; omega
  rw [e]
  simp [nm, List.getElem?_eq_getElem (show E.length - 1 < E.length by omega)]
theorem rng1 : rngP 0 1 = [.int 0] := rfl
theorem rng2 : rngP 0 2 = [.int 0, .int 1] := rfl
theorem plus_get {xs ys : List Int} {j : Nat} (h1 : j < xs.length) (h2 : j < ys.length) : (plus xs ys).getD j 0 = xs.getD j 0 + ys.getD j 0 := by
  have h3 : j < (plus xs ys).length := by simp [plus]; omega
  simp only [List.getD_eq_getElem?_getD, List.getElem?_eq_getElem h1, List.getElem?_eq_getElem h2, List.getElem?_eq_getElem h3, Option.getD_some]
  simp [plus]
theorem getD_le {xs : List Int} {m : Nat} (h : ∀ x ∈ xs, x.natAbs ≤ m) (j : Nat) : (xs.getD j 0).natAbs ≤ m := by
  rw [List.getD_eq_getElem?_getD]
  cases e : xs[j]? with
  | none => simp
  | some v => exact h v (List.mem_of_getElem? e)
theorem states_turn {E : It} (g : GoodE E) {n : Nat} {st : Cel} {K : Kq} {xs ys : List Int} (lx : xs.length = E.length) (ly : ys.length = E.length) {j : Nat} (hj : j < E.length) {a b : Slot} (q : ∀ a, K.N [.val (entV E), .val (.tup (zs xs)), .val (.tup (zs ys)), .val (.tup (zs (plus xs ys))), .val (.int j), b, a] st) :
    @RS.w (bodyL (P (n + 3)) FU [4] (match b__law_states_right with
      | .cons _ (.cons (.for_ _ _ b) _) => b
      | _ => .nil) (.int j) [.val (entV E), .val (.tup (zs xs)), .val (.tup (zs ys)), .val (.tup (zs (plus xs ys))), a, b, c] st) K := by
  have hl := g.len
  have lp : (plus xs ys).length = E.length := by simp [plus]; omega
  obtain ⟨lo, hi, e⟩ := ixV_ent (st := st) hj
  rw [bodyL_1]
  unfold b__law_states_right
  simp [e]
  refine value_ok g lx st (.item j) (n + 3) hj trivial (by show 0 + 2 ≤ _; omega) ?_
  have ex : atP (zs xs) (j : Int) = some (.int (xs.getD j 0)) := atP_zs (by omega)
  simp [ex, NX.val]
  refine value_ok g lp st (.item j) (n + 3) hj trivial (by show 0 + 2 ≤ _; omega) ?_
  simp
  refine value_ok g lx st (.item j) (n + 3) hj trivial (by show 0 + 2 ≤ _; omega) ?_
  simp
  refine value_ok g ly st (.item j) (n + 3) hj trivial (by show 0 + 2 ≤ _; omega) ?_
  have e3 := plus_get (xs := xs) (ys := ys) (j := j) (by omega) (by omega)
  simp [NX.val, e3, -List.getD_eq_getElem?_getD]
  exact q _
theorem states_right {E : It} (g : GoodE E) {n : Nat} {st : Cel} {Q : Kp PV} {xs ys : List Int} (lx : xs.length = E.length) (ly : ys.length = E.length) (bx : ∀ x ∈ xs, x.natAbs ≤ 12) (by_ : ∀ x ∈ ys, x.natAbs ≤ 12) (q : Q.run (.bl true) st) : @R.w _ (P (n + 4) 18 [entV E, .tup (zs xs), .tup (zs ys)] st) Q := by
  have hl := g.len
  have lp : (plus xs ys).length = E.length := by simp [plus]; omega
  have dx := fun j => getD_le bx j
  have dy := fun j => getD_le by_ j
  have sx : -1000000000000 < (NX.item 0).val xs ∧ (NX.item 0).val xs < 1000000000000 := by have := dx 0; show _ < xs.getD 0 0 ∧ xs.getD 0 0 < _; omega
  have sy : -1000000000000 < (NX.item 0).val ys ∧ (NX.item 0).val ys < 1000000000000 := by have := dy 0; show _ < ys.getD 0 0 ∧ ys.getD 0 0 < _; omega
  have sp : -1000000000000 < (NX.item 0).val (plus xs ys) ∧ (NX.item 0).val (plus xs ys) < 1000000000000 := by
    have := dx 0
    have := dy 0
    show _ < (plus xs ys).getD 0 0 ∧ (plus xs ys).getD 0 0 < _
    rw [plus_get (by omega) (by omega)]; omega
  apply s__law_states_right; unfold b__law_states_right
  simp
  refine added2 xs ys (by omega) ?_
  obtain ⟨lo, hi, e0⟩ := ixV_ent (st := st) (E := E) (j := 0) (by omega)
  obtain ⟨lo', hi', e1⟩ := ixV_last (st := st) (E := E) (by omega)
  rcases (by omega : E.length = 1 ∨ E.length = 2) with hE | hE
  · simp (disch := omega) [rng1V_int, hE, rng1, w_forL_cons]
    refine states_turn g lx ly (j := 0) (by omega) fun a => ?_
    simp [w_forL_nil]
    rw [show ixV st (entV E) (.int 0) = _ from e0]
    simp [e1]
    refine value_ok g lp st (.op .add (.item 0) (.item (E.length - 1))) (n + 3) ⟨by show 0 < _; omega, by show E.length - 1 < _; omega⟩ (⟨trivial, trivial, sp.1, sp.2⟩) (by show 0 + 0 + 1 + 2 ≤ _; omega) ?_
    simp
    refine value_ok g lx st (.op .add (.item 0) (.item (E.length - 1))) (n + 3) ⟨by show 0 < _; omega, by show E.length - 1 < _; omega⟩ (⟨trivial, trivial, sx.1, sx.2⟩) (by show 0 + 0 + 1 + 2 ≤ _; omega) ?_
    simp
    refine value_ok g ly st (.op .add (.item 0) (.item (E.length - 1))) (n + 3) ⟨by show 0 < _; omega, by show E.length - 1 < _; omega⟩ (⟨trivial, trivial, sy.1, sy.2⟩) (by show 0 + 0 + 1 + 2 ≤ _; omega) ?_
    have v1 := plus_get (xs := xs) (ys := ys) (j := 0) (by omega) (by omega)
    have v2 := plus_get (xs := xs) (ys := ys) (j := E.length - 1) (by omega) (by omega)
    have v : (NX.op .add (.item 0) (.item (E.length - 1))).val (plus xs ys) = (NX.op .add (.item 0) (.item (E.length - 1))).val xs + (NX.op .add (.item 0) (.item (E.length - 1))).val ys := by
      show (plus xs ys).getD 0 0 + (plus xs ys).getD _ 0 = (xs.getD 0 0 + xs.getD _ 0) + (ys.getD 0 0 + ys.getD _ 0)
      rw [v1, v2]; omega
    simp [v]
    exact q
  · simp (disch := omega) [rng1V_int, hE, rng2, w_forL_cons]
    refine states_turn g lx ly (j := 0) (by omega) fun a => ?_
    simp [w_forL_cons]
    refine states_turn g lx ly (j := 1) (by omega) fun a => ?_
    simp [w_forL_nil]
    rw [show ixV st (entV E) (.int 0) = _ from e0]
    simp [e1]
    refine value_ok g lp st (.op .add (.item 0) (.item (E.length - 1))) (n + 3) ⟨by show 0 < _; omega, by show E.length - 1 < _; omega⟩ (⟨trivial, trivial, sp.1, sp.2⟩) (by show 0 + 0 + 1 + 2 ≤ _; omega) ?_
    simp
    refine value_ok g lx st (.op .add (.item 0) (.item (E.length - 1))) (n + 3) ⟨by show 0 < _; omega, by show E.length - 1 < _; omega⟩ (⟨trivial, trivial, sx.1, sx.2⟩) (by show 0 + 0 + 1 + 2 ≤ _; omega) ?_
    simp
    refine value_ok g ly st (.op .add (.item 0) (.item (E.length - 1))) (n + 3) ⟨by show 0 < _; omega, by show E.length - 1 < _; omega⟩ (⟨trivial, trivial, sy.1, sy.2⟩) (by show 0 + 0 + 1 + 2 ≤ _; omega) ?_
    have v1 := plus_get (xs := xs) (ys := ys) (j := 0) (by omega) (by omega)
    have v2 := plus_get (xs := xs) (ys := ys) (j := E.length - 1) (by omega) (by omega)
    have v : (NX.op .add (.item 0) (.item (E.length - 1))).val (plus xs ys) = (NX.op .add (.item 0) (.item (E.length - 1))).val xs + (NX.op .add (.item 0) (.item (E.length - 1))).val ys := by
      show (plus xs ys).getD 0 0 + (plus xs ys).getD _ 0 = (xs.getD 0 0 + xs.getD _ 0) + (ys.getD 0 0 + ys.getD _ 0)
      rw [v1, v2]; omega
    simp [v]
    exact q
abbrev k0 : Key := .inr ("+" : Str)
abbrev k1 : Key := .inr ("-" : Str)
abbrev k2 : Key := .inr ("*" : Str)
theorem dct3 (a b c : PV) : dctV [.str "+", a, .str "-", b, .str "*", c] = some (.dct [k0, k1, k2] [a, b, c]) := by
  show (if ([k0, k1, k2] : List Key).Nodup ∧ ([k0, k1, k2] : List Key).length ≤ 15 then some (PV.dct [k0, k1, k2] [a, b, c]) else none) = _
  rw [if_pos (by decide +kernel)]
theorem dg0 (a b c : PV) : dgetV (.dct [k0, k1, k2] [a, b, c]) (.str "+") = some a := by
  show (if k0 = k0 then some a else if k1 = k0 then some b else if k2 = k0 then some c else none) = _
  rw [if_pos rfl]
theorem dg1 (a b c : PV) : dgetV (.dct [k0, k1, k2] [a, b, c]) (.str "-") = some b := by
  show (if k0 = k1 then some a else if k1 = k1 then some b else if k2 = k1 then some c else none) = _
  rw [if_neg (by decide +kernel), if_pos rfl]
theorem dg2 (a b c : PV) : dgetV (.dct [k0, k1, k2] [a, b, c]) (.str "*") = some c := by
  show (if k0 = k2 then some a else if k1 = k2 then some b else if k2 = k2 then some c else none) = _
  rw [if_neg (by decide +kernel), if_neg (by decide +kernel), if_pos rfl]
theorem eqV_bl3 (a b c d e f : Bool) : Ev.eqV (.lst [.bl a, .bl b, .bl c]) (.lst [.bl d, .bl e, .bl f]) = some (decide (a = d ∧ b = e ∧ c = f)) := by
  simp [Ev.eqV, scalE, eqD, PV.data, PV.dataL, SeqAt.shaped, PyData.canLay0, PyData.canLayAll0, PyData.depth, PyData.depthAll, PyData.eqv, PyData.eqvAll]
  cases a <;> cases b <;> cases c <;> cases d <;> cases e <;> cases f <;> rfl
theorem numbers_right {E : It} (g : GoodE E) {n : Nat} {st : Cel} {Q : Kp PV} {xs : List Int} (lx : xs.length = E.length) (bx : ∀ x ∈ xs, x.natAbs ≤ 24) {x y : NX} {c : CX} (ox : x.ok E.length) (oy : y.ok E.length) (oc : c.ok E.length) (fx : x.fine) (fy : y.fine) (fc : c.fine)
    (dx : x.dep ≤ 1) (dy : y.dep ≤ 1) (dc : c.dep ≤ 3) (hx : x.bd ≤ 1000) (hy : y.bd ≤ 1000) (q : Q.run (.bl true) st) : @R.w _ (P (n + 9) 15 [entV E, .tup (zs xs), x.pv E, y.pv E, c.pv E] st) Q := by
  have sx := x.sm_of bx fx
  have sy := y.sm_of bx fy
  have sc := c.sm_of bx fc
  have vx := x.val_le bx
  have vy := y.val_le bx
  have hp : ∀ o, (NX.op o x y).sm xs := fun o => ⟨sx, sy, by omega, by omega⟩
  have hr : (NX.op .add x (.op .mul (.lit (-1)) y)).sm xs := ⟨sx, ⟨trivial, sy, by show _ < (-1 : Int); omega, by show (-1 : Int) < _; omega⟩, by omega, by omega⟩
  apply s__law_numbers_right; unfold b__law_numbers_right
  simp
  refine value_ok g lx st x (n + 8) ox sx (by omega) ?_
  simp
  refine value_ok g lx st y (n + 8) oy sy (by omega) ?_
  simp
  refine holds_ok g lx st c (n + 8) oc sc (by omega) ?_
  simp (disch := omega) [w_compL_cons, w_compL_nil, w_turn, bin_mulc, dct3, w_forL_cons, kP, bodyL_1]
  refine value_ok g lx st (.op .add x y) (n + 8) ⟨ox, oy⟩ (hp _) (by show x.dep + y.dep + 1 + 2 ≤ _; omega) ?_
  simp [NX.val, Op.f, dg0, w_forL_cons, bodyL_1]
  refine value_ok g lx st (.op .sub x y) (n + 8) ⟨ox, oy⟩ (hp _) (by show x.dep + y.dep + 1 + 2 ≤ _; omega) ?_
  simp [NX.val, Op.f, dg1, w_forL_cons, bodyL_1]
  refine value_ok g lx st (.op .mul x y) (n + 8) ⟨ox, oy⟩ (hp _) (by show x.dep + y.dep + 1 + 2 ≤ _; omega) ?_
  simp [NX.val, Op.f, dg2, w_forL_nil]
  refine holds_ok g lx st (.rel true x y) (n + 8) ⟨ox, oy⟩ ⟨sx, sy⟩ (by show x.dep + y.dep + 1 + 2 ≤ _; omega) ?_
  simp
  refine holds_ok g lx st (.rel false x y) (n + 8) ⟨ox, oy⟩ ⟨sx, sy⟩ (by show x.dep + y.dep + 1 + 2 ≤ _; omega) ?_
  simp
  refine holds_ok g lx st (.no c) (n + 8) oc sc (by show c.dep + 1 + 2 ≤ _; omega) ?_
  simp [bin_cat, eqV_bl3, CX.val]
  refine value_ok g lx st (.lit (-7)) (n + 8) trivial trivial (by show 0 + 2 ≤ _; omega) ?_
  simp [NX.val]
  refine value_ok g lx st (.op .sub x y) (n + 8) ⟨ox, oy⟩ (hp _) (by show x.dep + y.dep + 1 + 2 ≤ _; omega) ?_
  simp
  refine value_ok g lx st (.op .add x (.op .mul (.lit (-1)) y)) (n + 8) ⟨ox, trivial, oy⟩ hr (by show x.dep + (0 + y.dep + 1) + 1 + 2 ≤ _; omega) ?_
  have e : (NX.op .sub x y).val xs = (NX.op .add x (.op .mul (.lit (-1)) y)).val xs := by
    show x.val xs - y.val xs = x.val xs + -1 * y.val xs
    omega
  simp [e]
  exact q
theorem conditions_right {E : It} (g : GoodE E) {n : Nat} {st : Cel} {Q : Kp PV} {xs : List Int} (lx : xs.length = E.length) (bx : ∀ x ∈ xs, x.natAbs ≤ 24) {c d : CX} (oc : c.ok E.length) (od : d.ok E.length) (fc : c.fine) (fd : d.fine)
    (dc : c.dep ≤ 3) (dd : d.dep ≤ 1) (q : Q.run (.bl true) st) : @R.w _ (P (n + 12) 16 [entV E, .tup (zs xs), c.pv E, d.pv E] st) Q := by
  have sc := c.sm_of bx fc
  have sd := d.sm_of bx fd
  have b1 : (CX.bin true c d).dep ≤ 5 := by show c.dep + d.dep + 1 ≤ 5; omega
  have b2 : (CX.bin false c d).dep ≤ 5 := by show c.dep + d.dep + 1 ≤ 5; omega
  apply s__law_conditions_right; unfold b__law_conditions_right
  simp
  refine holds_ok g lx st c (n + 11) oc sc (by omega) ?_
  simp
  refine holds_ok g lx st d (n + 11) od sd (by omega) ?_
  simp
  refine holds_ok g lx st (.bin true c d) (n + 11) ⟨oc, od⟩ ⟨sc, sd⟩ (by omega) ?_
  have e1 : (CX.bin true c d).val xs = (c.val xs && d.val xs) := rfl
  have e2 : (CX.bin false c d).val xs = (c.val xs || d.val xs) := rfl
  cases hc : c.val xs <;> cases hd : d.val xs <;> simp [e1, hc, hd]
  all_goals
    refine holds_ok g lx st (.bin false c d) (n + 11) ⟨oc, od⟩ ⟨sc, sd⟩ (by omega) ?_
    simp [e2, hc, hd]
    refine holds_ok g lx st (.bin false c d) (n + 11) ⟨oc, od⟩ ⟨sc, sd⟩ (by omega) ?_
    simp [e2, hc, hd]
    refine holds_ok g lx st (.no (.bin true (.no c) (.no d))) (n + 11) ⟨oc, od⟩ ⟨sc, sd⟩ (by show (c.dep + 1) + (d.dep + 1) + 1 + 1 + 2 ≤ _; omega) ?_
    simp [CX.val, hc, hd]
    refine holds_ok g lx st (.no (.no c)) (n + 11) oc sc (by show c.dep + 1 + 1 + 2 ≤ _; omega) ?_
    simp [CX.val, hc, hd]
    refine holds_ok g lx st (.bin true c c) (n + 11) ⟨oc, oc⟩ ⟨sc, sc⟩ (by show c.dep + c.dep + 1 + 2 ≤ _; omega) ?_
    simp [CX.val, hc, hd]
    exact q
theorem sm_ent {s : Str} {lo hi : Int} (hs : (PV.str s).sm = true) (h1 : lo.natAbs ≤ 1000) (h2 : hi.natAbs ≤ 1000) : (PV.tup [.str s, .int lo, .int hi]).sm = true := by
  show PV.smL _ = true
  rw [PV.smL, PV.smL, PV.smL, PV.smL, hs]
  simp [PV.sm]
  omega
theorem repr1 {s : Str} {lo hi : Int} (hs : (PV.str s).sm = true) (hz : s.cps.size ≤ 8) (h1 : lo.natAbs ≤ 1000) (h2 : hi.natAbs ≤ 1000) : ∃ t, reprV (entV [(s, lo, hi)]) = some (.str t) := by
  refine reprV_tup (xs := [.tup [.str s, .int lo, .int hi]]) ?_ ?_ ?_
  · rw [PV.smL, sm_ent hs h1 h2]; rfl
  · simp [PV.bkL, PV.bk]; omega
  · simp [PV.dpL, PV.dp]
theorem repr2 {s t : Str} {lo hi lo' hi' : Int} (hs : (PV.str s).sm = true) (hz : s.cps.size ≤ 8) (h1 : lo.natAbs ≤ 1000) (h2 : hi.natAbs ≤ 1000) (ht : (PV.str t).sm = true) (hw : t.cps.size ≤ 8) (h3 : lo'.natAbs ≤ 1000) (h4 : hi'.natAbs ≤ 1000) : ∃ u, reprV (entV [(s, lo, hi), (t, lo', hi')]) = some (.str u) := by
  refine reprV_tup (xs := [.tup [.str s, .int lo, .int hi], .tup [.str t, .int lo', .int hi']]) ?_ ?_ ?_
  · rw [PV.smL, PV.smL, sm_ent hs h1 h2, sm_ent ht h3 h4]; rfl
  · simp [PV.bkL, PV.bk]; omega
  · simp [PV.dpL, PV.dp]
theorem random_items {ns : List Int} {T n : Nat} {st : Cel} {Q : Kp PV} (h : Rd ns T st) (hT : T < 90000) (q : ∀ (E : It) st', GoodE E → (∃ s, reprV (entV E) = some (.str s)) → Rd ns (T + 5) st' → Q.run (entV E) st') : @R.w _ (P (n + 2) 11 [.cell 0] st) Q := by
  apply s__law_random_items; unfold b__law_random_items
  simp
  refine draw h (by omega) (by omega) (by omega) fun d st1 d0 d1 h1 => ?_
  rcases (by omega : d = 0 ∨ d = 1 ∨ d = 2 ∨ d = 3 ∨ d = 4) with rfl | rfl | rfl | rfl | rfl
  · simp [w_forL_cons, bodyL_1]
    refine draw h1 (by omega) (by omega) (by omega) fun a st2 a0 a1 h2 => ?_
    simp
    refine draw h2 (by omega) (by omega) (by omega) fun b st3 b0 b1 h3 => ?_
    simp [w_forL_nil]
    refine q [("a", a - 2, a - 2 + b)] st3 (.inl ⟨_, _, _, rfl, by decide +kernel⟩) ?_ (h3.mono (by omega))
    exact repr1 (by decide +kernel) (by decide +kernel) (by omega) (by omega)
  · simp [w_forL_cons, bodyL_1]
    refine draw h1 (by omega) (by omega) (by omega) fun a st2 a0 a1 h2 => ?_
    simp
    refine draw h2 (by omega) (by omega) (by omega) fun b st3 b0 b1 h3 => ?_
    simp [w_forL_nil]
    refine q [("coins", a - 2, a - 2 + b)] st3 (.inl ⟨_, _, _, rfl, by decide +kernel⟩) ?_ (h3.mono (by omega))
    exact repr1 (by decide +kernel) (by decide +kernel) (by omega) (by omega)
  · simp [w_forL_cons, bodyL_1]
    refine draw h1 (by omega) (by omega) (by omega) fun a st2 a0 a1 h2 => ?_
    simp
    refine draw h2 (by omega) (by omega) (by omega) fun b st3 b0 b1 h3 => ?_
    simp [w_forL_cons, bodyL_1]
    refine draw h3 (by omega) (by omega) (by omega) fun c st4 c0 c1 h4 => ?_
    simp
    refine draw h4 (by omega) (by omega) (by omega) fun d st5 d0 d1 h5 => ?_
    simp [w_forL_nil]
    refine q [("item", a - 2, a - 2 + b), ("not", c - 2, c - 2 + d)] st5 (.inr ⟨_, _, _, _, _, _, rfl, by decide +kernel, by decide +kernel, by decide +kernel⟩) ?_ (h5.mono (by omega))
    exact repr2 (by decide +kernel) (by decide +kernel) (by omega) (by omega) (by decide +kernel) (by decide +kernel) (by omega) (by omega)
  · simp [w_forL_cons, bodyL_1]
    refine draw h1 (by omega) (by omega) (by omega) fun a st2 a0 a1 h2 => ?_
    simp
    refine draw h2 (by omega) (by omega) (by omega) fun b st3 b0 b1 h3 => ?_
    simp [w_forL_cons, bodyL_1]
    refine draw h3 (by omega) (by omega) (by omega) fun c st4 c0 c1 h4 => ?_
    simp
    refine draw h4 (by omega) (by omega) (by omega) fun d st5 d0 d1 h5 => ?_
    simp [w_forL_nil]
    refine q [("cards", a - 2, a - 2 + b), ("coins", c - 2, c - 2 + d)] st5 (.inr ⟨_, _, _, _, _, _, rfl, by decide +kernel, by decide +kernel, by decide +kernel⟩) ?_ (h5.mono (by omega))
    exact repr2 (by decide +kernel) (by decide +kernel) (by omega) (by omega) (by decide +kernel) (by decide +kernel) (by omega) (by omega)
  · simp [w_forL_cons, bodyL_1]
    refine draw h1 (by omega) (by omega) (by omega) fun a st2 a0 a1 h2 => ?_
    simp
    refine draw h2 (by omega) (by omega) (by omega) fun b st3 b0 b1 h3 => ?_
    simp [w_forL_nil]
    refine q [("zzzzzzzz", a - 2, a - 2 + b)] st3 (.inl ⟨_, _, _, rfl, by decide +kernel⟩) ?_ (h3.mono (by omega))
    exact repr1 (by decide +kernel) (by decide +kernel) (by omega) (by omega)
/-- lots of items -/
def Lot (x : PV) : Prop := ∃ E : It, x = entV E ∧ GoodE E ∧ ∃ s, reprV (entV E) = some (.str s)
theorem lot1 (s : Str) (l h : Int) (hs : PyData.strOk s = true) (hr : ∃ t, reprV (entV [(s, l, h)]) = some (.str t)) : Lot (entV [(s, l, h)]) := ⟨_, rfl, .inl ⟨_, _, _, rfl, hs⟩, hr⟩
theorem lot2 (s t : Str) (l h l' h' : Int) (hn : s ≠ t) (hs : PyData.strOk s = true) (ht : PyData.strOk t = true) (hr : ∃ u, reprV (entV [(s, l, h), (t, l', h')]) = some (.str u)) : Lot (entV [(s, l, h), (t, l', h')]) := ⟨_, rfl, .inr ⟨_, _, _, _, _, _, rfl, hn, hs, ht⟩, hr⟩
def fstOf : PV → PV
  | .tup (a :: _) => a
  | _ => .non
theorem fixed {n : Nat} {st : Cel} {Q : Kp PV} (q : ∀ ss : List PV, ss.length = 5 → (∀ x ∈ ss, ∃ a r, x = .tup (a :: r) ∧ Lot a) → Q.run (.lst ss) st) : @R.w _ (P (n + 1) 14 [] st) Q := by
  apply s__law_fixed_stores; unfold b__law_fixed_stores
  simp
  refine q _ rfl ?_
  have l1 : Lot (entV [("coins", 0, 4)]) := lot1 _ _ _ (by decide +kernel) (repr1 (by decide +kernel) (by decide +kernel) (by decide) (by decide))
  have l3 : Lot (entV [("a", -1, 2), ("b", 0, 3)]) := lot2 _ _ _ _ _ _ (by decide +kernel) (by decide +kernel) (by decide +kernel) (repr2 (by decide +kernel) (by decide +kernel) (by decide) (by decide) (by decide +kernel) (by decide +kernel) (by decide) (by decide))
  have l4 : Lot (entV [("hand", -12, -10), ("rule", 12, 12)]) := lot2 _ _ _ _ _ _ (by decide +kernel) (by decide +kernel) (by decide +kernel) (repr2 (by decide +kernel) (by decide +kernel) (by decide) (by decide) (by decide +kernel) (by decide +kernel) (by decide) (by decide))
  have l5 : Lot (entV [("a", 0, 0)]) := lot1 _ _ _ (by decide +kernel) (repr1 (by decide +kernel) (by decide +kernel) (by decide) (by decide))
  intro x hx
  simp only [List.mem_cons, List.not_mem_nil, or_false] at hx
  rcases hx with rfl | rfl | rfl | rfl | rfl
  · exact ⟨_, _, rfl, l1⟩
  · exact ⟨_, _, rfl, l1⟩
  · exact ⟨_, _, rfl, l3⟩
  · exact ⟨_, _, rfl, l4⟩
  · exact ⟨_, _, rfl, l5⟩
structure LotI (ns : List Int) (T : Nat) (r : List PV) (ρ : En) (s : Cel) : Prop where
  ex : ∃ (v x : Slot) (lots : List PV), ρ = [v, .val (.cell 0), .own (.lst lots), x, .emp, .emp, .emp, .emp, .emp, .emp, .emp, .emp, .emp, .emp] ∧ (∀ x ∈ lots, Lot x) ∧ lots.length + r.length = 11 ∧ Rd ns (T + (6 - r.length) * 5) s ∧ r.length ≤ 6
/-- one turn of the law's inner loop -/
structure TurnI (ns : List Int) (T : Nat) (E : It) (sv : PV) (v l : Slot) (r : List PV) (ρ : En) (s : Cel) : Prop where
  ex : ∃ (x a b c d e f : Slot), ρ = [v, .val (.cell 0), l, x, .val (entV E), .emp, .val (slots E), .val sv, a, b, c, d, e, f] ∧ Rd ns (T + (3 - r.length) * 60) s ∧ r.length ≤ 3
structure EntI (ns : List Int) (T : Nat) (v l : Slot) (r : List PV) (ρ : En) (s : Cel) : Prop where
  ex : ∃ (x y z w a b c d e f : Slot), ρ = [v, .val (.cell 0), l, x, y, .emp, z, w, a, b, c, d, e, f] ∧ (∀ x ∈ r, Lot x) ∧ Rd ns (T + (11 - r.length) * 200) s ∧ r.length ≤ 11
theorem reader_ok {n : Nat} {st : Cel} {ns : List Int} {Q : Kp PV} (hn : ns.length ≤ 63) (q : Q.run (.lst [.lst (zs ns), .int 0, .int 0, .int 0]) st) : @R.w _ (P (n + 1) 6 [.rol (zs ns)] st) Q := by
  apply s__law_reader; unfold b__law_reader
  have e : cutP (zs ns) none (some 63) = zs ns := by
    unfold cutP
    have h1 : HT.sIx (zs ns).length 0 none = 0 := rfl
    have h2 : HT.sIx (zs ns).length (zs ns).length (some 63) = (zs ns).length := by
      rw [zs_length]
      unfold HT.sIx
      simp
      omega
    rw [h1, h2]
    rw [List.drop_zero, Nat.sub_zero, List.take_length]
  simp [e]
  exact q
theorem turn_ok {ns : List Int} {T n : Nat} {E : It} (g : GoodE E) {sv : PV} {v l : Slot} {x : PV} {r : List PV} {ρ : En} {s : Cel} {K : Kq} (hT : T < 10000) (h : TurnI ns T E sv v l (x :: r) ρ s) (q : ∀ ρ s, TurnI ns T E sv v l r ρ s → K.N ρ s) :
    @RS.w (bodyL (P (n + 13)) FU [3] (match b_law with
      | .cons _ (.cons _ (.cons _ (.cons _ (.cons (.for_ _ _ (.cons _ (.cons (.for_ _ _ b) _))) _)))) => b
      | _ => .nil) x ρ s) K := by
  obtain ⟨y, a, b, c, d, e, f, rfl, hr, hl⟩ := h
  have hl3 : r.length ≤ 2 := by simpa using hl
  have hle := g.len
  rw [bodyL_1]
  unfold b_law
  simp
  have hr : Rd ns (T + (2 - r.length) * 60) s := hr.mono (by simp <;> omega)
  refine random_sum hr (by omega) (by omega) (by omega) fun xs s1 lx bx h1 => ?_
  simp
  refine random_sum h1 (by omega) (by omega) (by omega) fun ys s2 ly by_ h2 => ?_
  simp
  refine number1 g h2 (by omega) fun e s3 oe de fe be h3 => ?_
  simp
  refine number1 g h3 (by omega) fun f s4 of df ff bf h4 => ?_
  simp
  refine condition1 g h4 (by omega) fun c s5 oc dc fc h5 => ?_
  simp
  refine condition0 g h5 (by omega) (by omega) fun d s6 od dd fd h6 => ?_
  simp
  have bx' : ∀ x ∈ xs, x.natAbs ≤ 24 := fun x hx => by have := bx x hx; omega
  refine numbers_right g lx bx' oe of oc fe ff fc de df dc be bf ?_
  simp
  refine conditions_right g lx bx' oc od fc fd dc dd ?_
  simp
  refine states_right g lx ly bx by_ ?_
  simp
  refine draw h6 (by omega) (by omega) (by omega) fun m s7 m0 m1 h7 => ?_
  simp
  obtain ⟨k, rfl⟩ := Int.eq_ofNat_of_zero_le m0
  have e1 : (1 : Int) + (k : Int) = ((1 + k : Nat) : Int) := by omega
  rw [e1]
  refine sums_right h7 (by omega) (by omega) (by omega) fun s8 h8 => ?_
  simp
  exact q _ _ ⟨_, _, _, _, _, _, _, rfl, h8.mono (by omega), by omega⟩
theorem law_ok {ns : List Int} (hn : ns.length ≤ 63) {Q : Kp PV} (q : ∀ st, Q.run (.bl true) st) : @R.w _ (P 20 19 [.rol (zs ns)] []) Q := by
  apply s_law; unfold b_law
  simp
  refine reader_ok hn ?_
  simp
  refine fixed fun ss hs hf => ?_
  simp
  refine compL_wmap fstOf ?_ ?_
  · intro x hx
    obtain ⟨a, r, rfl, _⟩ := hf x hx
    apply R.w_is
    rw [w_turn]
    simp [fstOf]
  have hlots : ∀ x ∈ ss.map fstOf, Lot x := by
    intro x hx
    obtain ⟨y, hy, rfl⟩ := List.mem_map.mp hx
    obtain ⟨a, r, rfl, hl⟩ := hf y hy
    exact hl
  have hlen : (ss.map fstOf).length = 5 := by simpa using hs
  generalize ss.map fstOf = lots at hlots hlen
  simp (disch := omega) [szOk_of, rng1V_int]
  have h0 : Rd ns 0 [PV.lst [PV.lst (zs ns), PV.int 0, PV.int 0, PV.int 0]] := ⟨_, _, _, rfl, by omega, by omega, by omega, by omega⟩
  refine forL_w (LotI ns 0) ⟨_, _, lots, rfl, hlots, by simp [hlen, rngP], h0.mono (by omega), by simp [rngP]⟩ ?_ ?_
  · rintro x r ρ s ⟨v, y, lots, rfl, hl, hlen, hr, h6⟩
    rw [bodyL_1]
    simp
    have h6 : r.length ≤ 5 := by simpa using h6
    have hr : Rd ns (0 + (5 - r.length) * 5) s := hr.mono (by simp <;> omega)
    refine random_items (n := 17) hr (by omega) fun E s2 g rp h2 => ?_
    have hlen : lots.length + (r.length + 1) = 11 := by simpa using hlen
    simp (disch := omega) [szOk_of]
    refine ⟨_, _, _, rfl, ?_, by simp; omega, h2.mono (by omega), by omega⟩
    intro x hx
    rcases List.mem_append.mp hx with hx | hx
    · exact hl x hx
    · rw [List.mem_singleton.mp hx]; exact ⟨E, rfl, g, rp⟩
  · rintro ρ s ⟨v, y, lots, rfl, hl, hlen, hr, h6⟩
    have hlen : lots.length = 11 := by simpa using hlen
    simp
    refine forL_w (EntI ns 100 v (.val (.lst lots))) ⟨_, _, _, _, _, _, _, _, _, _, rfl, hl, hr.mono (by simp; omega), by omega⟩ ?_ ?_
    · rintro x r ρ s ⟨x1, y1, z1, w1, a1, b1, c1, d1, e1, f1, rfl, hl, hr, h11⟩
      obtain ⟨E, rfl, g, t, ht⟩ := hl x (List.mem_cons_self ..)
      have h11 : r.length ≤ 10 := by simpa using h11
      have hr : Rd ns (100 + (10 - r.length) * 200) s := hr.mono (by simp <;> omega)
      rw [bodyL_1]
      simp
      refine slots_ok g ?_
      simp (disch := omega) [ht, rng1V_int]
      refine forL_w (TurnI ns (100 + (10 - r.length) * 200) E (.str t) v (.val (.lst lots))) ⟨_, _, _, _, _, _, _, rfl, hr.mono (by simp [rngP]), by simp [rngP]⟩ ?_ ?_
      · intro x r2 ρ s h
        exact turn_ok (n := 6) g (by omega) h fun ρ s h => h
      · rintro ρ s ⟨x2, a2, b2, c2, d2, e2, f2, rfl, hr, _⟩
        simp [ht]
        exact ⟨_, _, _, _, _, _, _, _, _, _, rfl, fun x hx => hl x (List.mem_cons_of_mem _ hx), hr.mono (by simp; omega), by omega⟩
    · rintro ρ s ⟨x1, y1, z1, w1, a1, b1, c1, d1, e1, f1, rfl, hl, hr, h11⟩
      simp
      exact q s
theorem plain : ∀ ns : List Int, ns.length ≤ 63 → ∃ st', Phi ds FU 20 19 [.rol (ns.map .int)] [] = .ok (.bl true) st' := by
  intro ns hn
  obtain ⟨v, st, e, h⟩ := R.w_eq (law_ok hn (Q := ⟨fun v _ => v = .bl true⟩) fun _ => rfl)
  exact ⟨st, by rw [show v = .bl true from h] at e; unfold P at e; exact e⟩
end K05
open PySem PySem.W PyProof.Rows
set_option maxRecDepth 100000 in
set_option maxHeartbeats 0 in
theorem PySem.Challenge.cw_ownrights_k05_whole_values_and_sums_holds : PySem.Challenge.rw_ownrights_k05_whole_values_and_sums.Holds := by
  w_on; o_law; k_head; (case hw => w_witness2)
  k_fill
  refine Ev.walkG (l := PySem.Challenge.rw_ownrights_k05_whole_values_and_sums) (n := 63) (k := 20) (φ := Ev.Phi K05.ds K05.FU 20 19) rfl (by decide) rfl ⟨rfl, by decide, by decide⟩ (fun w h Y => PySem.W.kIn_of Y) ?F K05.plain
  case F =>
    intro w mg fa h KX G hmg base hK hG
    refine Ev.law_is (D := K05.D_law) ?T K05.bind_all K05.okD_all ?bi rfl rfl hmg
    case T =>
      refine' K05.told_all KX G ?a0 ?l0 ?c0 ?k0 ?a1 ?l1 ?c1 ?k1 ?a2 ?l2 ?c2 ?k2 ?a3 ?l3 ?c3 ?k3 ?a4 ?l4 ?c4 ?k4 ?a5 ?l5 ?c5 ?k5 ?a6 ?l6 ?c6 ?k6 ?a7 ?l7 ?c7 ?k7 ?a8 ?l8 ?c8 ?k8 ?a9 ?l9 ?c9 ?k9 ?a10 ?l10 ?c10 ?k10 ?a11 ?l11 ?c11 ?k11 ?a12 ?l12 ?c12 ?k12 ?a13 ?l13 ?c13 ?k13 ?a14 ?l14 ?c14 ?k14 ?a15 ?l15 ?c15 ?k15 ?a16 ?l16 ?c16 ?k16 ?a17 ?l17 ?c17 ?k17 ?a18 ?l18 ?c18 ?k18 ?a19 ?l19 ?c19 ?k19
      (case a0 => k_is); (case l0 => k_is); (case c0 => k_is); (case k0 => k_is)
      (case a1 => k_is); (case l1 => k_is); (case c1 => k_is); (case k1 => k_is)
      (case a2 => k_is); (case l2 => k_is); (case c2 => k_is); (case k2 => k_is)
      (case a3 => k_is); (case l3 => k_is); (case c3 => k_is); (case k3 => k_is)
      (case a4 => k_is); (case l4 => k_is); (case c4 => k_is); (case k4 => k_is)
      (case a5 => k_is); (case l5 => k_is); (case c5 => k_is); (case k5 => k_is)
      (case a6 => k_is); (case l6 => k_is); (case c6 => k_is); (case k6 => k_is)
      (case a7 => k_is); (case l7 => k_is); (case c7 => k_is); (case k7 => k_is)
      (case a8 => k_is); (case l8 => k_is); (case c8 => k_is); (case k8 => k_is)
      (case a9 => k_is); (case l9 => k_is); (case c9 => k_is); (case k9 => k_is)
      (case a10 => k_is); (case l10 => k_is); (case c10 => k_is); (case k10 => k_is)
      (case a11 => k_is); (case l11 => k_is); (case c11 => k_is); (case k11 => k_is)
      (case a12 => k_is); (case l12 => k_is); (case c12 => k_is); (case k12 => k_is)
      (case a13 => k_is); (case l13 => k_is); (case c13 => k_is); (case k13 => k_is)
      (case a14 => k_is); (case l14 => k_is); (case c14 => k_is); (case k14 => k_is)
      (case a15 => k_is); (case l15 => k_is); (case c15 => k_is); (case k15 => k_is)
      (case a16 => k_is); (case l16 => k_is); (case c16 => k_is); (case k16 => k_is)
      (case a17 => k_is); (case l17 => k_is); (case c17 => k_is); (case k17 => k_is)
      (case a18 => k_is); (case l18 => k_is); (case c18 => k_is); (case k18 => k_is)
      (case a19 => k_is); (case l19 => k_is); (case c19 => k_is); (case k19 => k_is)
    case bi =>
      refine' Ev.bi_of KX G ?z0 ?z1 ?z2 ?z3 ?z4 ?z5 ?z6 ?z7 ?z8 ?z9 ?z10 ?z11 ?z12 ?z13 ?z14 ?z15 ?z16 ?z17 ?z18
      all_goals k_is
