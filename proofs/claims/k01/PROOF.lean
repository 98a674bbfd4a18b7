import PyProof.Rows.All
import Wide.All
import OpenK.AllK
import Wide.FinOn
import HandS.ForMost
import HandS.ForExc
import HandS.Walk
import HandS.TupAny
import HandS.TupMul
import HandS.Style
import HandS.Deep
import HandS.IsInst
import HandS.ExcIs
import HandS.CallSlots
import HandS.Flow
import HandS.Small
import HandS.Words
import HandS.Ends
import OpenK.KWalk
import OpenK.KLine
import HandS.EndBits
import PySem.Challenge.RW_rootrooms_k01_primes_and_contraries
set_option Elab.async false
set_option linter.all false
/-! The small language of this proof: values, terms, statements, and what they come to. Plain Lean. -/
namespace Rm
open PySem

/-- a value: seq true is a tuple, seq false a list that nobody changes any more; ref n the n-th list of the store; loc i the list that slot i alone holds; exc c p a caught error of class c with its field p; scr the script's list -/
inductive PV where
  | non | bl (b : Bool) | int (i : Int) | str (x : Str)
  | seq (t : Bool) (xs : List PV)
  | ref (n : Nat) | loc (i : Nat)
  | exc (c : Nat) (p : PV)
  | scr (xs : List PV)
  deriving Inhabited

abbrev Sto := List (List PV)
inductive FV where
  | val (p : PV) | own (xs : List PV)
  deriving Inhabited
abbrev Frm := List (Option FV)

inductive Out (α : Type) where
  | ok (a : α) (st : Sto) | exc (c : Nat) (p : PV) (st : Sto) | bad

def Out.bind {α β : Type} : Out α → (α → Sto → Out β) → Out β
  | .ok a st, f => f a st
  | .exc c p st, _ => .exc c p st
  | .bad, _ => .bad
@[simp] theorem Out.bind_ok {α β : Type} (a : α) (st : Sto) (f : α → Sto → Out β) : (Out.ok a st).bind f = f a st := rfl
@[simp] theorem Out.bind_exc {α β : Type} (c : Nat) (p : PV) (st : Sto) (f : α → Sto → Out β) : (Out.exc c p st : Out α).bind f = .exc c p st := rfl
@[simp] theorem Out.bind_bad {α β : Type} (f : α → Sto → Out β) : (Out.bad : Out α).bind f = .bad := rfl
def Out.of {α : Type} (o : Option α) (st : Sto) : Out α := match o with
  | some a => .ok a st
  | none => .bad
@[simp] theorem Out.of_some {α : Type} (a : α) (st : Sto) : Out.of (some a) st = .ok a st := rfl
@[simp] theorem Out.of_none {α : Type} (st : Sto) : (Out.of none st : Out α) = .bad := rfl

/-- no marker of a slot's own list -/
def keep : PV → Bool
  | .loc _ => false
  | _ => true
def keepAll (xs : List PV) : Bool := xs.all keep
@[simp] theorem keep_non : keep .non = true := rfl
@[simp] theorem keep_bl (b : Bool) : keep (.bl b) = true := rfl
@[simp] theorem keep_int (i : Int) : keep (.int i) = true := rfl
@[simp] theorem keep_str (x : Str) : keep (.str x) = true := rfl
@[simp] theorem keep_seq (t : Bool) (xs : List PV) : keep (.seq t xs) = true := rfl
@[simp] theorem keep_ref (n : Nat) : keep (.ref n) = true := rfl
@[simp] theorem keep_exc (c : Nat) (p : PV) : keep (.exc c p) = true := rfl
@[simp] theorem keep_scr (xs : List PV) : keep (.scr xs) = true := rfl
@[simp] theorem keep_loc (i : Nat) : keep (.loc i) = false := rfl
@[simp] theorem keepAll_nil : keepAll [] = true := rfl
@[simp] theorem keepAll_cons (x : PV) (xs : List PV) : keepAll (x :: xs) = (keep x && keepAll xs) := by simp [keepAll]

/-- the list that a marker stands for -/
def deref (fr : Frm) (st : Sto) : PV → PV
  | .ref n => match st[n]? with
    | some xs => .seq false xs
    | none => .ref n
  | .loc i => match fr[i]? with
    | some (some (.own xs)) => .seq false xs
    | _ => .loc i
  | p => p
@[simp] theorem deref_non (fr : Frm) (st : Sto) : deref fr st .non = .non := rfl
@[simp] theorem deref_bl (fr : Frm) (st : Sto) (b : Bool) : deref fr st (.bl b) = .bl b := rfl
@[simp] theorem deref_int (fr : Frm) (st : Sto) (i : Int) : deref fr st (.int i) = .int i := rfl
@[simp] theorem deref_str (fr : Frm) (st : Sto) (x : Str) : deref fr st (.str x) = .str x := rfl
@[simp] theorem deref_seq (fr : Frm) (st : Sto) (t : Bool) (xs : List PV) : deref fr st (.seq t xs) = .seq t xs := rfl
@[simp] theorem deref_scr (fr : Frm) (st : Sto) (xs : List PV) : deref fr st (.scr xs) = .scr xs := rfl
@[simp] theorem deref_exc (fr : Frm) (st : Sto) (c : Nat) (p : PV) : deref fr st (.exc c p) = .exc c p := rfl

/-! ### data: what == and repr read -/
mutual
def dat : PV → PyData
  | .non => .none
  | .bl b => .bool b
  | .int i => .int i
  | .str x => .str x
  | .seq true xs => .tuple (dats xs)
  | .seq false xs => .list (dats xs)
  | _ => .dict []
def dats : List PV → List PyData
  | [] => []
  | x :: xs => dat x :: dats xs
end
mutual
def isDat : PV → Bool
  | .non | .bl _ | .int _ => true
  | .str x => PyData.canLay0 (.str x)
  | .seq _ xs => areDat xs
  | _ => false
def areDat : List PV → Bool
  | [] => true
  | x :: xs => isDat x && areDat xs
end
/-- data at most 64 deep -/
def okEq (p : PV) : Bool := isDat p && decide ((dat p).depth ≤ 64)
/-- .. whose text fits -/
def okRepr (p : PV) : Bool := isDat p && decide ((dat p).depth ≤ 64) && (dat p).showable && decide ((dat p).shown.length ≤ sizeLine)

/-! ### operators -/
inductive Op where | add | sub | mul | fdiv | mod | pow
  deriving DecidableEq
inductive Cop where | eq | ne | lt | le | gt | ge | isin | notin | is_ | isnot
  deriving DecidableEq
inductive Blt where | len | sum | all | any | int | str | bool | repr | tuple | list | sorted | abs | max | min
  deriving DecidableEq
/-- what isinstance asks for -/
inductive Ty where | int | bool | str | tuple | list | cls (c : Nat)
  deriving DecidableEq

def small (i : Int) : Bool := decide (-(2 ^ 64) < i ∧ i < 2 ^ 64)
def fits (n : Nat) : Bool := decide (n ≤ sizeLine)

def binF : Op → PV → PV → Option PV
  | .add, .int i, .int j => some (.int (i + j))
  | .add, .int i, .bl b => some (.int (i + if b then 1 else 0))
  | .add, .seq t xs, .seq u ys => if t = u ∧ fits (xs.length + ys.length) = true then some (.seq t (xs ++ ys)) else none
  | .sub, .int i, .int j => some (.int (i - j))
  | .mul, .int i, .int j => if small i = true ∨ small j = true then some (.int (i * j)) else none
  | .mul, .seq t xs, .int k => if small k = true ∧ k < 2 ^ 63 ∧ -(2 ^ 63) ≤ k ∧ fits (xs.length * k.toNat) = true then some (.seq t (List.replicate k.toNat xs).flatten) else none
  | .fdiv, .int i, .int j => if j ≠ 0 ∧ j.natAbs < 1073741824 then some (.int (i.fdiv j)) else none
  | .mod, .int i, .int j => if j ≠ 0 then some (.int (i.fmod j)) else none
  | .pow, .int i, .int j => if 0 ≤ j ∧ j ≤ 1000000 ∧ i.natAbs < 2 ^ 64 then some (.int (i ^ j.toNat)) else none
  | _, _, _ => none

def eqF (p q : PV) : Option Bool := if okEq p = true ∧ okEq q = true then some (PyData.eqv (dat p) (dat q)) else none
def inF (p : PV) (xs : List PV) : Option Bool := if okEq p = true ∧ okEq (.seq true xs) = true then some ((dats xs).any fun z => PyData.eqv z (dat p)) else none
def idxOfF (p : PV) (xs : List PV) : Option Nat := if okEq p = true ∧ okEq (.seq false xs) = true then (dats xs).findIdx? fun z => PyData.eqv z (dat p) else none
def cntF (p : PV) (xs : List PV) : Option Nat := if okEq p = true ∧ okEq (.seq false xs) = true then some ((dats xs).countP fun z => PyData.eqv z (dat p)) else none
/-- is None, is True, is False -/
def isF : PV → PV → Option Bool
  | .bl a, .bl b => some (decide (a = b))
  | .non, .non => some true
  | .bl _, .non | .int _, .non | .str _, .non | .seq _ _, .non | .ref _, .non | .exc _ _, .non | .scr _, .non => some false
  | _, _ => none

def cmpF : Cop → PV → PV → Option Bool
  | .eq, p, q => eqF p q
  | .ne, p, q => (eqF p q).map not
  | .lt, .int i, .int j => some (decide (i < j))
  | .le, .int i, .int j => some (decide (i ≤ j))
  | .gt, .int i, .int j => some (decide (j < i))
  | .ge, .int i, .int j => some (decide (j ≤ i))
  | .isin, p, .seq _ xs => inF p xs
  | .notin, p, .seq _ xs => (inF p xs).map not
  | .is_, p, q => isF p q
  | .isnot, p, q => (isF p q).map not
  | _, _, _ => none

def truF : PV → Option Bool
  | .non => some false
  | .bl b => some b
  | .int i => some (i != 0)
  | .str x => if fits x.length = true then some (x.length != 0) else none
  | .seq _ xs => some (!xs.isEmpty)
  | _ => none

def idxF : PV → PV → Option PV
  | .seq _ xs, .int i => L2.atI xs i
  | _, _ => none
def cutF (lo hi : Option Int) : PV → Option PV
  | .seq t xs => some (.seq t ((xs.drop (HT.sIx xs.length 0 lo)).take (HT.sIx xs.length xs.length hi - HT.sIx xs.length 0 lo)))
  | .scr xs => some (.seq false ((xs.drop (HT.sIx xs.length 0 lo)).take (HT.sIx xs.length xs.length hi - HT.sIx xs.length 0 lo)))
  | _ => none
def revF : PV → Option PV
  | .seq false xs => some (.seq false xs.reverse)
  | _ => none

def intBL : List PV → Option (List Int)
  | [] => some []
  | .int i :: r => (intBL r).map (i :: ·)
  | .bl b :: r => (intBL r).map ((if b then 1 else 0) :: ·)
  | _ => none
def intL : List PV → Option (List Int)
  | [] => some []
  | .int i :: r => (intL r).map (i :: ·)
  | _ => none
def boolL : List PV → Option (List Bool)
  | [] => some []
  | .bl b :: r => (boolL r).map (b :: ·)
  | _ => none

def bltF : Blt → List PV → Option PV
  | .len, [.seq _ xs] => some (.int xs.length)
  | .len, [.scr xs] => some (.int xs.length)
  | .sum, [.seq false xs] => (intL xs).map fun ns => .int ns.sum
  | .all, [.seq false xs] => (boolL xs).map fun bs => .bl (bs.all id)
  | .any, [.seq false xs] => (boolL xs).map fun bs => .bl (bs.any id)
  | .int, [.int i] => some (.int i)
  | .int, [.bl b] => some (.int (if b then 1 else 0))
  | .str, [.int i] => if i.natAbs.log2 < 1920 then some (.str (toString i)) else none
  | .bool, [.bl b] => some (.bl b)
  | .repr, [p] => if okRepr p = true then some (.str (dat p).shown) else none
  | .tuple, [.seq _ xs] => some (.seq true xs)
  | .list, [.seq _ xs] => some (.seq false xs)
  | .abs, [.int i] => some (.int (if i < 0 then -i else i))
  | .max, [.int i, .int j] => some (.int (if j > i then j else i))
  | .min, [.int i, .int j] => some (.int (if j < i then j else i))
  | _, _ => none

/-! ### terms -/
/-- targets -/
inductive T where
  | nm (i : Nat) | tp (l : T) | nil | cons (a l : T)
/-- expressions; nil, cons: lists of them; it..: what a loop walks -/
inductive E where
  | var (i : Nat) | cst (p : PV) | glb (k : Nat)
  | neg (a : E) | not (a : E)
  | bin (op : Op) (a b : E) | cmp (op : Cop) (a b : E) | chn (o1 o2 : Cop) (a b c : E)
  | and (l : E) | or (l : E) | ite (c a b : E)
  | tup (l : E) | lst (l : E) | nil | cons (a l : E)
  | sub (a i : E) | slc (a lo hi : E) | rev (a : E)
  | call (f : Nat) (l k : E) | blt (b : Blt) (l : E) | isi (a : E) (ts : List Ty) | fld (a : E)
  | idx (a x : E) | cnt (a x : E)
  | comp (own : List Nat) (elt : E) (tg : T) (it c : E)
  | comp2 (own : List Nat) (vs : List Nat) (elt : E) (tg : T) (it c : E) (tg2 : T) (it2 c2 : E)
  | itS (a : E) | itR (l : E) | itE (a : E) | itZ (s : Bool) (a b : E)

mutual
/-- a target takes a value -/
def asg : T → PV → Frm → Option Frm
  | .nm i, p, fr => if i < fr.length then some (fr.set i (some (.val p))) else none
  | .tp l, .seq true xs, fr => asgL l xs fr
  | _, _, _ => none
def asgL : T → List PV → Frm → Option Frm
  | .nil, [], fr => some fr
  | .cons a l, x :: xs, fr => (asg a x fr).bind fun fr => asgL l xs fr
  | _, _, _ => none
end

structure Sig where
  call : Nat → List PV → Sto → Out PV
  glb : List PV
  /-- the classes above the c-th, itself among them -/
  anc : List (List Nat)
  /-- the turns that a while may take -/
  fuel : Nat

def isiF (S : Sig) : PV → Ty → Option Bool
  | .exc c _, .cls d => (S.anc[c]?).map fun l => l.contains d
  | .exc c _, _ => (S.anc[c]?).map fun _ => false
  | .int _, .int => some true
  | .bl _, .int => some true
  | .bl _, .bool => some true
  | .str _, .str => some true
  | .seq true _, .tuple => some true
  | .seq false _, .list => some true
  | .loc _, _ => none
  | .ref _, _ => none
  | .scr _, _ => none
  | _, _ => some false
def isiAny (S : Sig) (p : PV) : List Ty → Option Bool
  | [] => some false
  | t :: ts => match isiF S p t with
    | some true => some true
    | some false => isiAny S p ts
    | none => none

def wipeF (fr : Frm) : List Nat → Frm
  | [] => fr
  | v :: vs => (wipeF fr vs).set v none

/-- one clause of a comprehension -/
def compRun (els : Frm → Sto → Out PV) (cnd : Frm → Sto → Out Bool) (tg : T) (fr : Frm) : List PV → List PV → Sto → Out (List PV)
  | [], acc, st => .ok acc st
  | x :: xs, acc, st => match asg tg x fr with
    | none => .bad
    | some fr1 => match cnd fr1 st with
      | .ok true st => match els fr1 st with
        | .ok p st => if keep p = true then compRun els cnd tg fr xs (acc ++ [p]) st else .bad
        | _ => .bad
      | .ok false st => compRun els cnd tg fr xs acc st
      | _ => .bad

def enumF (i : Nat) : List PV → List PV
  | [] => []
  | x :: xs => .seq true [.int i, x] :: enumF (i + 1) xs
def zipF : List PV → List PV → List PV
  | x :: xs, y :: ys => .seq true [x, y] :: zipF xs ys
  | _, _ => []
def rangeF (lo : Int) (n : Nat) : List PV := (List.range n).map fun k => .int (lo + (k : Nat))
def inRange (i : Int) : Bool := decide (-(2 ^ 62) ≤ i ∧ i < 2 ^ 62)

def negF : PV → Option PV
  | .int i => some (.int (-i))
  | _ => none
def intF : PV → Option Int
  | .int i => some i
  | _ => none
def blF : PV → Option Bool
  | .bl b => some b
  | _ => none
def idxM (y : PV) : PV → Option PV
  | .seq false xs => (idxOfF y xs).map fun (j : Nat) => .int (j : Int)
  | _ => none
def cntM (y : PV) : PV → Option PV
  | .seq false xs => (cntF y xs).map fun (j : Nat) => .int (j : Int)
  | _ => none
def seqF : PV → Option (List PV)
  | .seq _ xs => some xs
  | _ => none
def lstF : PV → Option (List PV)
  | .seq false xs => some xs
  | _ => none
def rngF : List PV → Option (List PV)
  | [.int n] => if inRange n = true ∧ fits n.toNat = true then some (rangeF 0 n.toNat) else none
  | [.int a, .int b] => if inRange a = true ∧ inRange b = true ∧ fits (b - a).toNat = true then some (rangeF a (b - a).toNat) else none
  | _ => none
def excF : PV → Option PV
  | .exc _ p => some p
  | _ => none

/-- a bound of a slice -/
def optO (e : E) (r : Out PV) (st : Sto) : Out (Option Int) := match e with
  | .nil => .ok none st
  | _ => r.bind fun p st => (Out.of (intF p) st).bind fun i st => .ok (some i) st
/-- a clause's test -/
def tstC (e : E) (r : Frm → Sto → Out PV) : Frm → Sto → Out Bool := fun fr st => match e with
  | .nil => .ok true st
  | _ => (r fr st).bind fun p st => .of (truF (deref fr st p)) st
mutual
def evE (S : Sig) : E → Frm → Sto → Out PV
  | .var i, fr, st => match fr[i]? with
    | some (some (.val p)) => .ok p st
    | some (some (.own _)) => .ok (.loc i) st
    | _ => .bad
  | .cst p, _, st => .ok p st
  | .glb k, _, st => .of S.glb[k]? st
  | .neg a, fr, st => (evE S a fr st).bind fun p st => .of (negF p) st
  | .not a, fr, st => (evE S a fr st).bind fun p st => (Out.of (truF (deref fr st p)) st).bind fun b st => .ok (.bl (!b)) st
  | .bin op a b, fr, st => (evE S a fr st).bind fun x st => (evE S b fr st).bind fun y st => .of (binF op (deref fr st x) (deref fr st y)) st
  | .cmp op a b, fr, st => (evE S a fr st).bind fun x st => (evE S b fr st).bind fun y st => (Out.of (cmpF op (deref fr st x) (deref fr st y)) st).bind fun k st => .ok (.bl k) st
  | .chn o1 o2 a b c, fr, st => (evE S a fr st).bind fun x st => (evE S b fr st).bind fun y st => (Out.of (cmpF o1 (deref fr st x) (deref fr st y)) st).bind fun k st =>
      if k = true then (evE S c fr st).bind fun z st => (Out.of (cmpF o2 (deref fr st y) (deref fr st z)) st).bind fun k st => .ok (.bl k) st else .ok (.bl false) st
  | .and l, fr, st => evA S l fr st
  | .or l, fr, st => evR S l fr st
  | .ite c a b, fr, st => (evE S c fr st).bind fun x st => (Out.of (truF (deref fr st x)) st).bind fun k st => if k = true then evE S a fr st else evE S b fr st
  | .tup l, fr, st => (evL S l fr st).bind fun xs st => if keepAll xs = true ∧ fits xs.length = true then .ok (.seq true xs) st else .bad
  | .lst l, fr, st => (evL S l fr st).bind fun xs st => if keepAll xs = true ∧ fits xs.length = true then .ok (.seq false xs) st else .bad
  | .sub a i, fr, st => (evE S a fr st).bind fun x st => (evE S i fr st).bind fun y st => .of (idxF (deref fr st x) y) st
  | .slc a lo hi, fr, st => (evE S a fr st).bind fun x st => (optO lo (evE S lo fr st) st).bind fun l st => (optO hi (evE S hi fr st) st).bind fun h st => .of (cutF l h (deref fr st x)) st
  | .rev a, fr, st => (evE S a fr st).bind fun x st => .of (revF (deref fr st x)) st
  | .call f l k, fr, st => (evL S l fr st).bind fun xs st => (evL S k fr st).bind fun ys st => if keepAll (xs ++ ys) = true then S.call f (xs ++ ys) st else .bad
  | .blt b l, fr, st => (evL S l fr st).bind fun xs st => .of (bltF b (xs.map (deref fr st))) st
  | .isi a ts, fr, st => (evE S a fr st).bind fun x st => (Out.of (isiAny S (deref fr st x) ts) st).bind fun k st => .ok (.bl k) st
  | .fld a, fr, st => (evE S a fr st).bind fun x st => .of (excF x) st
  | .idx a x, fr, st => (evE S a fr st).bind fun v st => (Out.of (lstF (deref fr st v)) st).bind fun _ st => (evE S x fr st).bind fun y st => .of (idxM (deref fr st y) (deref fr st v)) st
  | .cnt a x, fr, st => (evE S a fr st).bind fun v st => (Out.of (lstF (deref fr st v)) st).bind fun _ st => (evE S x fr st).bind fun y st => .of (cntM (deref fr st y) (deref fr st v)) st
  | .comp own elt tg it c, fr, st => (evI S it fr st).bind fun xs st => (compRun (evE S elt) (tstC c (evE S c)) tg (wipeF fr own) xs [] st).bind fun ys st => .ok (.seq false ys) st
  | _, _, _ => .bad
/-- and, from the left: all are truths -/
def evA (S : Sig) : E → Frm → Sto → Out PV
  | .cons a l, fr, st => (evE S a fr st).bind fun x st => (Out.of (blF x) st).bind fun b st => if b = true then evA S l fr st else .ok (.bl false) st
  | .nil, _, st => .ok (.bl true) st
  | _, _, _ => .bad
/-- or -/
def evR (S : Sig) : E → Frm → Sto → Out PV
  | .cons a l, fr, st => (evE S a fr st).bind fun x st => (Out.of (blF x) st).bind fun b st => if b = true then .ok (.bl true) st else evR S l fr st
  | .nil, _, st => .ok (.bl false) st
  | _, _, _ => .bad
/-- a list of expressions -/
def evL (S : Sig) : E → Frm → Sto → Out (List PV)
  | .nil, _, st => .ok [] st
  | .cons a l, fr, st => (evE S a fr st).bind fun x st => (evL S l fr st).bind fun xs st => .ok (x :: xs) st
  | _, _, _ => .bad
/-- what is walked -/
def evI (S : Sig) : E → Frm → Sto → Out (List PV)
  | .itS a, fr, st => (evE S a fr st).bind fun x st => .of (seqF x) st
  | .itR l, fr, st => (evL S l fr st).bind fun xs st => .of (rngF xs) st
  | .itE a, fr, st => (evE S a fr st).bind fun x st => .of ((lstF x).map (enumF 0)) st
  | _, _, _ => .bad
end
def evO (S : Sig) (e : E) (fr : Frm) (st : Sto) : Out (Option Int) := optO e (evE S e fr st) st
def evC (S : Sig) (e : E) : Frm → Sto → Out Bool := tstC e (evE S e)
end Rm
set_option Elab.async false
set_option linter.all false
/-! What the small language's values are in the heap, and how that lasts. -/
namespace Rm
open PySem PySem.Spec L2

/-- F: the lists that stay; r: where the store's lists stand; o: where the slots' own lists stand -/
structure Wd where
  F : Addr → Prop
  r : Nat → Option Addr
  o : Nat → Option Addr
def Wd.withO (W : Wd) (o : Nat → Option Addr) : Wd := { W with o := o }
def Wd.also (W : Wd) (a : Addr) : Wd := { W with F := fun b => W.F b ∨ b = a }

/-- a caught error of the class at C, its own dict d -/
def excHO (a C : Addr) (d : Option Addr) : HO := .ext fun h => ∃ oe vs, h.get? a = some oe ∧ oe.cls = .ref C ∧ oe.dict = d ∧ oe.data = .fields vs

/-- a list of the written part -/
def KList (K : PySem.W.Frag) (a : Addr) (us : List V) : Prop :=
  ∃ (o : Obj) (its : Array Value) (n : Nat), K.lookup a = some o ∧ o.cls = .type "list" ∧ o.dict = none ∧ o.data = .seq its n ∧ its.size ≤ sizeLine ∧ Vals us its.toList

mutual
inductive Den (K : PySem.W.Frag) (C : Nat → Addr) (W : Wd) (H : Hp) : V → PV → Prop
  | non : Den K C W H .non .non
  | bl (b : Bool) : Den K C W H (.bl b) (.bl b)
  | int (i : Int) : Den K C W H (.int i) (.int i)
  | str (x : Str) : Den K C W H (.str x) (.str x)
  | tup {a : Addr} {us : List V} {xs : List PV} : SqT K H a us → Dens K C W H us xs → Den K C W H (.ref a) (.seq true xs)
  | lst {a : Addr} {us : List V} {xs : List PV} : W.F a → H a = some (.lst us) → Dens K C W H us xs → Den K C W H (.ref a) (.seq false xs)
  | scr {a : Addr} {us : List V} {xs : List PV} : (∃ o, H a = some (.frz o (.lst us))) ∨ KList K a us → Dens K C W H us xs → Den K C W H (.ref a) (.scr xs)
  | ref {a : Addr} {n : Nat} : W.r n = some a → Den K C W H (.ref a) (.ref n)
  | exc {a : Addr} {c : Nat} : H a = some (excHO a (C c) none) → Den K C W H (.ref a) (.exc c .non)
inductive Dens (K : PySem.W.Frag) (C : Nat → Addr) (W : Wd) (H : Hp) : List V → List PV → Prop
  | nil : Dens K C W H [] []
  | cons {v : V} {vs : List V} {p : PV} {ps : List PV} : Den K C W H v p → Dens K C W H vs ps → Dens K C W H (v :: vs) (p :: ps)
end

section
variable {K : PySem.W.Frag} {C : Nat → Addr} {W W' W2 : Wd} {H H' H2 : Hp} {v : V} {p : PV} {us : List V} {xs ys : List PV} {σ : St} {fr : Frm} {st st' : Sto}

theorem Dens.len : ∀ {us : List V} {xs : List PV}, Dens K C W H us xs → us.length = xs.length
  | _, _, .nil => rfl
  | _, _, .cons _ t => congrArg Nat.succ (Dens.len t)
theorem Dens.get : ∀ {us : List V} {xs : List PV} {i : Nat} {p : PV}, Dens K C W H us xs → xs[i]? = some p → ∃ u, us[i]? = some u ∧ Den K C W H u p
  | _, _, _, _, .nil, e => by simp at e
  | _, _, 0, p, .cons r _, e => by
    simp at e
    subst e
    exact ⟨_, rfl, r⟩
  | _, _, i + 1, p, .cons _ t, e => by
    obtain ⟨u, h1, h2⟩ := Dens.get (i := i) (p := p) t (by simpa using e)
    exact ⟨u, by simpa using h1, h2⟩
theorem Dens.getV : ∀ {us : List V} {xs : List PV} {i : Nat} {u : V}, Dens K C W H us xs → us[i]? = some u → ∃ p, xs[i]? = some p ∧ Den K C W H u p
  | _, _, _, _, .nil, e => by simp at e
  | _, _, 0, p, .cons r _, e => by
    simp at e
    subst e
    exact ⟨_, rfl, r⟩
  | _, _, i + 1, p, .cons _ t, e => by
    obtain ⟨u, h1, h2⟩ := Dens.getV (i := i) (u := p) t (by simpa using e)
    exact ⟨u, by simpa using h1, h2⟩
theorem Dens.app : ∀ {us ws : List V} {xs ys : List PV}, Dens K C W H us xs → Dens K C W H ws ys → Dens K C W H (us ++ ws) (xs ++ ys)
  | _, _, _, _, .nil, s => s
  | _, _, _, _, .cons r t, s => .cons r (Dens.app t s)
theorem Dens.take : ∀ {us : List V} {xs : List PV} (n : Nat), Dens K C W H us xs → Dens K C W H (us.take n) (xs.take n)
  | _, _, 0, _ => by simpa using .nil
  | _, _, _ + 1, .nil => .nil
  | _, _, n + 1, .cons r t => .cons r (Dens.take n t)
theorem Dens.drop : ∀ {us : List V} {xs : List PV} (n : Nat), Dens K C W H us xs → Dens K C W H (us.drop n) (xs.drop n)
  | _, _, 0, r => r
  | _, _, _ + 1, .nil => .nil
  | _, _, n + 1, .cons _ t => Dens.drop n t
theorem Dens.set : ∀ {us : List V} {xs : List PV} {v : V} {p : PV} (n : Nat), Dens K C W H us xs → Den K C W H v p → Dens K C W H (us.set n v) (xs.set n p)
  | _, _, _, _, _, .nil, _ => .nil
  | _, _, _, _, 0, .cons _ t, d => .cons d t
  | _, _, _, _, n + 1, .cons r t, d => .cons r (Dens.set n t d)
theorem Dens.rev : ∀ {us : List V} {xs : List PV}, Dens K C W H us xs → Dens K C W H us.reverse xs.reverse
  | _, _, .nil => .nil
  | _, _, .cons r t => by
    rw [List.reverse_cons, List.reverse_cons]
    exact (Dens.rev t).app (.cons r .nil)
theorem Dens.rep (d : Dens K C W H us xs) : ∀ k : Nat, Dens K C W H (List.replicate k us).flatten (List.replicate k xs).flatten
  | 0 => by simpa using .nil
  | k + 1 => by
    rw [List.replicate_succ, List.replicate_succ, List.flatten_cons, List.flatten_cons]
    exact d.app (Dens.rep d k)

theorem Rd.keep {a : Addr} {u : HO} (h : Rd H a u) (k : ∀ o, H a = some o → H' a = some o) : Rd H' a u := by
  rcases h with h | ⟨o, h⟩
  · exact .inl (k _ h)
  · exact .inr ⟨o, k _ h⟩
mutual
theorem Den.mono (hF : ∀ a, W.F a → W'.F a) (hr : ∀ n a, W.r n = some a → W'.r n = some a) 
    (hk : ∀ a o, H a = some o → (W.F a ∨ ∀ us, o ≠ .lst us) → H' a = some o) : ∀ {v : V} {p : PV}, Den K C W H v p → Den K C W' H' v p
  | _, _, .non => .non
  | _, _, .bl b => .bl b
  | _, _, .int i => .int i
  | _, _, .str x => .str x
  | _, _, .tup s d => .tup (by
      rcases s with (s | ⟨o, s⟩) | s
      · exact .inl (.inl (hk _ _ s (.inr fun us e => nomatch e)))
      · exact .inl (.inr ⟨o, hk _ _ s (.inr fun us e => nomatch e)⟩)
      · exact .inr s) (Dens.mono hF hr hk d)
  | _, _, .lst f s d => .lst (hF _ f) (hk _ _ s (.inl f)) (Dens.mono hF hr hk d)
  | _, _, .scr s d => .scr (by
      rcases s with ⟨o, s⟩ | s
      · exact .inl ⟨o, hk _ _ s (.inr fun us e => nomatch e)⟩
      · exact .inr s) (Dens.mono hF hr hk d)
  | _, _, .ref e => .ref (hr _ _ e)
  | _, _, .exc e => .exc (hk _ _ e (.inr fun us z => nomatch z))
theorem Dens.mono (hF : ∀ a, W.F a → W'.F a) (hr : ∀ n a, W.r n = some a → W'.r n = some a) 
    (hk : ∀ a o, H a = some o → (W.F a ∨ ∀ us, o ≠ .lst us) → H' a = some o) : ∀ {us : List V} {xs : List PV}, Dens K C W H us xs → Dens K C W' H' us xs
  | _, _, .nil => .nil
  | _, _, .cons r t => .cons (Den.mono hF hr hk r) (Dens.mono hF hr hk t)
end

/-- lists and tuples are of a bounded length -/
def Sz (H : Hp) : Prop := ∀ a us, Rd H a (.lst us) ∨ Rd H a (.tup us) → us.length ≤ sizeLine
theorem Inv.sz' {X : Cx} {pins : List (Addr × Obj)} {s : Shared} (I : Inv X pins σ H s) : Sz H := fun a us h => by
  rcases h with h | h
  · exact (h.ok I.hok).1
  · exact (h.ok I.hok).1
structure Sep (W : Wd) (H : Hp) : Prop where
  rl : ∀ n a, W.r n = some a → ∃ us, H a = some (.lst us)
  ol : ∀ i a, W.o i = some a → ∃ us, H a = some (.lst us)
  Fs : ∀ a, W.F a → ∃ u, H a = some u
  Fr : ∀ a n, W.F a → W.r n ≠ some a
  Fo : ∀ a i, W.F a → W.o i ≠ some a
  ro : ∀ n i a, W.r n = some a → W.o i ≠ some a
  rr : ∀ n m a, W.r n = some a → W.r m = some a → n = m
  oo : ∀ n m a, W.o n = some a → W.o m = some a → n = m
/-- from one heap to a later one: what is none of the store's lists stays; what is new was free -/
structure Ext (W : Wd) (H : Hp) (W' : Wd) (H' : Hp) : Prop where
  kp : ∀ b u, H b = some u → (∀ n, W.r n ≠ some b) → H' b = some u
  th : ∀ b u, H b = some u → ∃ u', H' b = some u'
  F : ∀ a, W.F a → W'.F a
  Fn : ∀ a, W'.F a → W.F a ∨ H a = none
  r : ∀ n a, W.r n = some a → W'.r n = some a
  rn : ∀ n a, W'.r n = some a → W.r n = some a ∨ H a = none
theorem Ext.free (X : Ext W H W' H') {a : Addr} (h : H' a = none) : H a = none := by
  cases q : H a with
  | none => rfl
  | some u =>
    obtain ⟨u', e⟩ := X.th a u q
    rw [h] at e
    cases e
theorem Ext.refl (W : Wd) (H : Hp) : Ext W H W H := ⟨fun _ _ h _ => h, fun _ u h => ⟨u, h⟩, fun _ h => h, fun _ h => .inl h, fun _ _ h => h, fun _ _ h => .inl h⟩
theorem Ext.trans (X : Ext W H W' H') (Y : Ext W' H' W2 H2) : Ext W H W2 H2 where
  kp := fun b u h n => Y.kp b u (X.kp b u h n) fun m e => by
    rcases X.rn m b e with z | z
    · exact n m z
    · rw [h] at z
      cases z
  th := fun b u h => by
    obtain ⟨u1, h1⟩ := X.th b u h
    exact Y.th b u1 h1
  F := fun a h => Y.F a (X.F a h)
  Fn := fun a h => by
    rcases Y.Fn a h with z | z
    · exact X.Fn a z
    · exact .inr (X.free z)
  r := fun n a h => Y.r n a (X.r n a h)
  rn := fun n a h => by
    rcases Y.rn n a h with z | z
    · exact X.rn n a z
    · exact .inr (X.free z)
/-- a step that leaves the worlds' stores as they are -/
theorem Den.ext (S : Sep W H) (X : Ext W H W' H') (d : Den K C W H v p) : Den K C W' H' v p :=
  d.mono X.F X.r fun a u e q => X.kp a u e fun n z => by
    obtain ⟨us, e'⟩ := S.rl n a z
    rcases q with q | q
    · exact S.Fr a n q z
    · rw [e] at e'
      exact q us (Option.some.inj e')
theorem Dens.ext (S : Sep W H) (X : Ext W H W' H') (d : Dens K C W H us xs) : Dens K C W' H' us xs :=
  d.mono X.F X.r fun a u e q => X.kp a u e fun n z => by
    obtain ⟨us, e'⟩ := S.rl n a z
    rcases q with q | q
    · exact S.Fr a n q z
    · rw [e] at e'
      exact q us (Option.some.inj e')

structure RelS (K : PySem.W.Frag) (C : Nat → Addr) (W : Wd) (H : Hp) (st : Sto) : Prop where
  sep : Sep W H
  sz : Sz H
  str : ∀ (n : Nat) (xs : List PV), st[n]? = some xs → ∃ a us, W.r n = some a ∧ H a = some (.lst us) ∧ Dens K C W H us xs
  rn : ∀ n a, W.r n = some a → n < st.length
structure Rel (K : PySem.W.Frag) (C : Nat → Addr) (W : Wd) (H : Hp) (σ : St) (fr : Frm) (st : Sto) : Prop where
  s : RelS K C W H st
  len : fr.length = σ.length
  slt : ∀ (i : Nat) (p : PV), fr[i]? = some (some (.val p)) → ∃ v, σ[i]? = some (some v) ∧ Den K C W H v p
  own : ∀ (i : Nat) (xs : List PV), fr[i]? = some (some (.own xs)) → ∃ a us, σ[i]? = some (some (.ref a)) ∧ W.o i = some a ∧ H a = some (.lst us) ∧ Dens K C W H us xs
  on : ∀ (i : Nat) (a : Addr), W.o i = some a → ∃ xs, fr[i]? = some (some (.own xs))

/-- the slots of a frame, carried over a step that does not touch them -/
theorem Rel.ext (R : Rel K C W H σ fr st) (X : Ext W H W' H') (ho : W'.o = W.o) (S : RelS K C W' H' st') : Rel K C W' H' σ fr st' where
  s := S
  len := R.len
  slt := fun i p h => by
    obtain ⟨v, h1, h2⟩ := R.slt i p h
    exact ⟨v, h1, h2.ext R.s.sep X⟩
  own := fun i xs h => by
    obtain ⟨a, us, h1, h2, h3, h4⟩ := R.own i xs h
    exact ⟨a, us, h1, by rw [ho]; exact h2, X.kp a _ h3 fun n z => R.s.sep.ro n i a z h2, h4.ext R.s.sep X⟩
  on := fun i a h => R.on i a (by rw [← ho]; exact h)

/-- what an expression comes to: a value, or the marker of a slot's own list -/
def DenM (K : PySem.W.Frag) (C : Nat → Addr) (W : Wd) (H : Hp) (v : V) (p : PV) : Prop :=
  Den K C W H v p ∨ ∃ a i, p = .loc i ∧ v = .ref a ∧ W.o i = some a
theorem DenM.ext (S : Sep W H) (X : Ext W H W' H') (ho : W'.o = W.o) (d : DenM K C W H v p) : DenM K C W' H' v p := by
  rcases d with d | ⟨a, i, h1, h2, h3⟩
  · exact .inl (d.ext S X)
  · exact .inr ⟨a, i, h1, h2, by rw [ho]; exact h3⟩
theorem DenM.den (d : DenM K C W H v p) (h : keep p = true) : Den K C W H v p := by
  rcases d with d | ⟨a, i, h1, h2, h3⟩
  · exact d
  · subst h1
    cases h
abbrev DensM (K : PySem.W.Frag) (C : Nat → Addr) (W : Wd) (H : Hp) : List V → List PV → Prop := Paired (DenM K C W H)
theorem DensM.dens : ∀ {us : List V} {xs : List PV}, DensM K C W H us xs → keepAll xs = true → Dens K C W H us xs
  | _, _, .nil, _ => .nil
  | _, _, .cons r t, h => by
    simp only [keepAll_cons, Bool.and_eq_true] at h
    exact .cons (DenM.den r h.1) (DensM.dens t h.2)
theorem DensM.ext (S : Sep W H) (X : Ext W H W' H') (ho : W'.o = W.o) : ∀ {us : List V} {xs : List PV}, DensM K C W H us xs → DensM K C W' H' us xs
  | _, _, .nil => .nil
  | _, _, .cons r t => .cons (DenM.ext S X ho r) (DensM.ext S X ho t)
/-- what an operation reads: the value itself, or the list that a marker stands for -/
def DenB (K : PySem.W.Frag) (C : Nat → Addr) (W : Wd) (H : Hp) (v : V) (p : PV) : Prop :=
  Den K C W H v p ∨ ∃ a us xs, p = .seq false xs ∧ v = .ref a ∧ H a = some (.lst us) ∧ Dens K C W H us xs
theorem Rel.deref (R : Rel K C W H σ fr st) (d : DenM K C W H v p) : DenB K C W H v (deref fr st p) := by
  rcases d with d | ⟨a, i, rfl, rfl, e⟩
  · cases d with
    | non => exact .inl .non
    | bl b => exact .inl (.bl b)
    | int i => exact .inl (.int i)
    | str x => exact .inl (.str x)
    | tup s t => exact .inl (.tup s t)
    | lst f s t => exact .inl (.lst f s t)
    | scr s t => exact .inl (.scr s t)
    | exc e => exact .inl (.exc e)
    | ref e =>
      rename_i a n
      have hn := R.s.rn n a e
      obtain ⟨b, us, h1, h2, h3⟩ := R.s.str n st[n] (by simp [hn])
      rw [e] at h1
      cases h1
      refine .inr ⟨a, us, st[n], ?_, rfl, h2, h3⟩
      simp only [Rm.deref]
      rw [show st[n]? = some st[n] by simp [hn]]
  · obtain ⟨xs, hx⟩ := R.on i a e
    obtain ⟨b, us, _, h1, h2, h3⟩ := R.own i xs hx
    rw [e] at h1
    cases h1
    refine .inr ⟨a, us, xs, ?_, rfl, h2, h3⟩
    simp only [Rm.deref]
    rw [hx]
theorem DenB.list (d : DenB K C W H v (.seq false xs)) : ∃ a us, v = .ref a ∧ H a = some (.lst us) ∧ Dens K C W H us xs := by
  rcases d with d | ⟨a, us, ys, e, ev, h, ds⟩
  · cases d with
    | lst f s t => exact ⟨_, _, rfl, s, t⟩
  · cases e
    exact ⟨a, us, ev, h, ds⟩
theorem DenB.scr (d : DenB K C W H v (.scr xs)) : ∃ a us, v = .ref a ∧ SqL K H a us ∧ Dens K C W H us xs := by
  rcases d with d | ⟨a, us, ys, e, _⟩
  · cases d with
    | scr s t =>
      refine ⟨_, _, rfl, ?_, t⟩
      rcases s with ⟨o, s⟩ | s
      · exact .inl (.inr ⟨o, s⟩)
      · exact .inr s
  · cases e
theorem DenB.tup (d : DenB K C W H v (.seq true xs)) : ∃ a us, v = .ref a ∧ SqT K H a us ∧ Dens K C W H us xs := by
  rcases d with d | ⟨a, us, ys, e, _⟩
  · cases d with
    | tup s t => exact ⟨_, _, rfl, s, t⟩
  · cases e
theorem DenB.seqv {t : Bool} (d : DenB K C W H v (.seq t xs)) : ∃ a us, v = .ref a ∧ (SqL K H a us ∨ SqT K H a us) ∧ Dens K C W H us xs := by
  cases t with
  | false =>
    obtain ⟨a, us, h1, h2, h3⟩ := d.list
    exact ⟨a, us, h1, .inl (SqL.of h2), h3⟩
  | true =>
    obtain ⟨a, us, h1, h2, h3⟩ := d.tup
    exact ⟨a, us, h1, .inr h2, h3⟩
theorem DenB.int {i : Int} (d : DenB K C W H v (.int i)) : v = .int i := by
  rcases d with d | ⟨a, us, ys, e, _⟩
  · cases d
    rfl
  · cases e
theorem DenB.bl {b : Bool} (d : DenB K C W H v (.bl b)) : v = .bl b := by
  rcases d with d | ⟨a, us, ys, e, _⟩
  · cases d
    rfl
  · cases e
theorem DenB.str {x : Str} (d : DenB K C W H v (.str x)) : v = .str x := by
  rcases d with d | ⟨a, us, ys, e, _⟩
  · cases d
    rfl
  · cases e
theorem DenB.non (d : DenB K C W H v .non) : v = .non := by
  rcases d with d | ⟨a, us, ys, e, _⟩
  · cases d
    rfl
  · cases e

/-! ### data -/
mutual
theorem Den.dp : ∀ {v : V} {p : PV}, Den K C W H v p → isDat p = true → Dp K H v (dat p)
  | _, _, .non, _ => by simp only [dat]; exact .non
  | _, _, .bl b, _ => by simp only [dat]; exact .bl b
  | _, _, .int i, _ => by simp only [dat]; exact .int i
  | _, _, .str x, _ => by simp only [dat]; exact .str x
  | _, _, .tup s d, h => by simp only [dat]; exact .tup s (Dens.dp d (by simpa [isDat] using h))
  | _, _, .lst f s d, h => by
    simp only [dat]
    exact .lst (SqL.of s) (Dens.dp d (by simpa [isDat] using h))
  | _, _, .scr _ _, h => by simp [isDat] at h
  | _, _, .ref _, h => by simp [isDat] at h
  | _, _, .exc _, h => by simp [isDat] at h
theorem Dens.dp : ∀ {us : List V} {xs : List PV}, Dens K C W H us xs → areDat xs = true → DpAll K H us (dats xs)
  | _, _, .nil, _ => by simp only [dats]; exact .nil
  | _, _, .cons r t, h => by
    simp only [areDat, Bool.and_eq_true] at h
    simp only [dats]
    exact .cons (Den.dp r h.1) (Dens.dp t h.2)
end
mutual
theorem isDat_can : ∀ p : PV, isDat p = true → (dat p).canLay0 = true
  | .non, _ => by simp only [dat, PyData.canLay0]
  | .bl b, _ => by simp only [dat, PyData.canLay0]
  | .int i, _ => by simp only [dat, PyData.canLay0]
  | .str x, h => by simpa [dat, isDat] using h
  | .seq true xs, h => by
    simp only [dat, PyData.canLay0]
    exact areDat_can xs (by simpa [isDat] using h)
  | .seq false xs, h => by
    simp only [dat, PyData.canLay0]
    exact areDat_can xs (by simpa [isDat] using h)
  | .ref _, h => by simp [isDat] at h
  | .loc _, h => by simp [isDat] at h
  | .exc _ _, h => by simp [isDat] at h
  | .scr _, h => by simp [isDat] at h
theorem areDat_can : ∀ xs : List PV, areDat xs = true → PyData.canLayAll0 (dats xs) = true
  | [], _ => by simp only [dats, PyData.canLayAll0]
  | x :: xs, h => by
    simp only [areDat, Bool.and_eq_true] at h
    simp only [dats, PyData.canLayAll0, isDat_can x h.1, areDat_can xs h.2, Bool.and_self]
end
theorem DenB.dp (d : DenB K C W H v p) (h : isDat p = true) : Dp K H v (dat p) := by
  rcases d with d | ⟨a, us, ys, e, ev, hl, ds⟩
  · exact d.dp h
  · subst e ev
    simp only [dat]
    exact .lst (.inl (.inl hl)) (ds.dp (by simpa [isDat] using h))
theorem okEq_shaped (h : okEq p = true) : isDat p = true ∧ SeqAt.shaped (dat p) = true := by
  unfold okEq at h
  simp only [Bool.and_eq_true] at h
  refine ⟨h.1, ?_⟩
  unfold SeqAt.shaped
  rw [isDat_can p h.1, h.2]
  rfl
end
end Rm
set_option Elab.async false
set_option linter.all false
/-! Readings: what a term of the small language promises of the machine; the operators. -/
namespace Rm
open PySem PySem.Spec L2

def Post {α : Type} (o : Out α) (A : α → Sto → Prop) (B : Nat → PV → Sto → Prop) : Prop := match o with
  | .ok a st => A a st
  | .exc c p st => B c p st
  | .bad => False
theorem Post.bind {α β : Type} {o : Out α} {k : α → Sto → Out β} {A : β → Sto → Prop} {B : Nat → PV → Sto → Prop} (h : Post (o.bind k) A B) : Post o (fun a st => Post (k a st) A B) B := by
  cases o with
  | ok a st => exact h
  | exc c p st => exact h
  | bad => exact h
theorem Post.imp {α : Type} {o : Out α} {A A' : α → Sto → Prop} {B B' : Nat → PV → Sto → Prop} (h : Post o A B) (ha : ∀ a st, A a st → A' a st) (hb : ∀ c p st, B c p st → B' c p st) : Post o A' B' := by
  cases o with
  | ok a st => exact ha _ _ h
  | exc c p st => exact hb _ _ _ h
  | bad => exact h
theorem Post.of {α : Type} {o : Option α} {st : Sto} {A : α → Sto → Prop} {B : Nat → PV → Sto → Prop} (h : Post (Out.of o st) A B) : ∃ a, o = some a ∧ A a st := by
  cases o with
  | some a => exact ⟨a, rfl, h⟩
  | none => exact h.elim

/-- what a class number and a field say of an error -/
def ExcV (C : Nat → Addr) (c : Nat) (p : PV) (cls : Value) (d : Option Addr) : Prop := cls = .ref (C c) ∧ d = none ∧ p = .non

section
variable (K : PySem.W.Frag) (C : Nat → Addr) (Wx : WX)
def EndOk (W : Wd) (H : Hp) (σ : St) (fr : Frm) (st : Sto) (p : PV) (Q : VK) : Prop :=
  ∀ W' H' v, Ext W H W' H' → W'.o = W.o → Rel K C W' H' σ fr st → DenM K C W' H' v p → Q v H'
def EndX (W : Wd) (H : Hp) (σ : St) (fr : Frm) (c : Nat) (p : PV) (st : Sto) : Prop :=
  ∀ W' H' cls d, Ext W H W' H' → W'.o = W.o → Rel K C W' H' σ fr st → ExcV C c p cls d → Wx cls d σ H'
def EndL (W : Wd) (H : Hp) (σ : St) (fr : Frm) (st : Sto) (ps : List PV) (Q : List V → Hp → Prop) : Prop :=
  ∀ W' H' vs, Ext W H W' H' → W'.o = W.o → Rel K C W' H' σ fr st → DensM K C W' H' vs ps → Q vs H'
def EndT (W : Wd) (H : Hp) (σ : St) (fr : Frm) (st : Sto) (b : Bool) (Q : Bool → Hp → Prop) : Prop :=
  ∀ W' H', Ext W H W' H' → W'.o = W.o → Rel K C W' H' σ fr st → Q b H'
/-- as EndOk, but a list is told while nobody holds it yet -/
def EndFr (W : Wd) (H : Hp) (σ : St) (fr : Frm) (st : Sto) (p : PV) (Q : VK) : Prop :=
  (∀ W' H' v, (∀ xs, p ≠ .seq false xs) → Ext W H W' H' → W'.o = W.o → Rel K C W' H' σ fr st → DenM K C W' H' v p → Q v H') ∧
  ∀ W' H' a us xs, p = .seq false xs → Ext W H W' H' → W'.o = W.o → Rel K C W' H' σ fr st → H' a = some (.lst us) → Dens K C W' H' us xs → ¬ W'.F a → (∀ n, W'.r n ≠ some a) → (∀ i, W'.o i ≠ some a) → H a = none → Q (.ref a) H'
def tE (f : Frm → Sto → Out PV) : TE := fun σ H Q => ∃ W fr st, Rel K C W H σ fr st ∧ Post (f fr st) (fun p st' => EndOk K C W H σ fr st' p Q) (EndX K C Wx W H σ fr)
def tFr (f : Frm → Sto → Out PV) : TE := fun σ H Q => ∃ W fr st, Rel K C W H σ fr st ∧ Post (f fr st) (fun p st' => EndFr K C W H σ fr st' p Q) (EndX K C Wx W H σ fr)
def tL (f : Frm → Sto → Out (List PV)) : TA := fun σ H Q => ∃ W fr st, Rel K C W H σ fr st ∧ Post (f fr st) (fun ps st' => EndL K C W H σ fr st' ps Q) (EndX K C Wx W H σ fr)
def tT (f : Frm → Sto → Out Bool) : TT := fun σ H Q => ∃ W fr st, Rel K C W H σ fr st ∧ Post (f fr st) (fun b st' => EndT K C W H σ fr st' b Q) (EndX K C Wx W H σ fr)
end

section
variable {K : PySem.W.Frag} {C : Nat → Addr} {Wx : WX} {W W' W1 : Wd} {H H' H1 : Hp} {v : V} {p : PV} {us : List V} {xs ys : List PV} {σ : St} {fr : Frm} {st st' : Sto} {Q : VK}

theorem EndOk.shift (h : EndOk K C W H σ fr st p Q) (X : Ext W H W1 H1) (o : W1.o = W.o) : EndOk K C W1 H1 σ fr st p Q :=
  fun W' H' v X' o' R D => h W' H' v (X.trans X') (o'.trans o) R D
theorem EndX.shift {c : Nat} (h : EndX K C Wx W H σ fr c p st) (X : Ext W H W1 H1) (o : W1.o = W.o) : EndX K C Wx W1 H1 σ fr c p st :=
  fun W' H' cls d X' o' R D => h W' H' cls d (X.trans X') (o'.trans o) R D
theorem EndL.shift {ps : List PV} {Q : List V → Hp → Prop} (h : EndL K C W H σ fr st ps Q) (X : Ext W H W1 H1) (o : W1.o = W.o) : EndL K C W1 H1 σ fr st ps Q :=
  fun W' H' v X' o' R D => h W' H' v (X.trans X') (o'.trans o) R D
theorem EndT.shift {b : Bool} {Q : Bool → Hp → Prop} (h : EndT K C W H σ fr st b Q) (X : Ext W H W1 H1) (o : W1.o = W.o) : EndT K C W1 H1 σ fr st b Q :=
  fun W' H' X' o' R => h W' H' (X.trans X') (o'.trans o) R
theorem EndFr.shift (h : EndFr K C W H σ fr st p Q) (X : Ext W H W1 H1) (o : W1.o = W.o) : EndFr K C W1 H1 σ fr st p Q :=
  ⟨fun W' H' v hp X' o' R D => h.1 W' H' v hp (X.trans X') (o'.trans o) R D, fun W' H' a us xs hp X' o' R e D n1 n2 n3 hn => h.2 W' H' a us xs hp (X.trans X') (o'.trans o) R e D n1 n2 n3 (X.free hn)⟩

/-! ### a new object -/
theorem Sep.new {a : Addr} {u : HO} (S : Sep W H) (h : H a = none) : Sep W (upd H a u) where
  rl := fun n b e => by
    obtain ⟨us, z⟩ := S.rl n b e
    exact ⟨us, by rw [upd_ne (ne_of_none z h)]; exact z⟩
  ol := fun n b e => by
    obtain ⟨us, z⟩ := S.ol n b e
    exact ⟨us, by rw [upd_ne (ne_of_none z h)]; exact z⟩
  Fs := fun b e => by
    obtain ⟨us, z⟩ := S.Fs b e
    exact ⟨us, by rw [upd_ne (ne_of_none z h)]; exact z⟩
  Fr := S.Fr
  Fo := S.Fo
  ro := S.ro
  rr := S.rr
  oo := S.oo
theorem Ext.new {a : Addr} {u : HO} (h : H a = none) : Ext W H W (upd H a u) where
  kp := fun b o e _ => by rw [upd_ne (ne_of_none e h)]; exact e
  th := fun b o e => ⟨o, by rw [upd_ne (ne_of_none e h)]; exact e⟩
  F := fun _ e => e
  Fn := fun _ e => .inl e
  r := fun _ _ e => e
  rn := fun _ _ e => .inl e
theorem Rel.new {a : Addr} {u : HO} (R : Rel K C W H σ fr st) (h : H a = none) (z : Sz (upd H a u)) : Rel K C W (upd H a u) σ fr st :=
  R.ext (Ext.new h) rfl ⟨R.s.sep.new h, z, fun n xs e => by
    obtain ⟨b, us, h1, h2, h3⟩ := R.s.str n xs e
    exact ⟨b, us, h1, by rw [upd_ne (ne_of_none h2 h)]; exact h2, h3.ext R.s.sep (Ext.new h)⟩, R.s.rn⟩
theorem Sep.free {a : Addr} (S : Sep W H) (h : H a = none) : ¬ W.F a ∧ (∀ n, W.r n ≠ some a) ∧ ∀ i, W.o i ≠ some a := by
  refine ⟨fun z => ?_, fun n z => ?_, fun n z => ?_⟩
  · obtain ⟨u, e⟩ := S.Fs a z
    rw [h] at e
    cases e
  · obtain ⟨u, e⟩ := S.rl n a z
    rw [h] at e
    cases e
  · obtain ⟨u, e⟩ := S.ol n a z
    rw [h] at e
    cases e
/-- a list that nobody holds is one that stays -/
theorem Rel.also {a : Addr} {us : List V} (R : Rel K C W H σ fr st) (e : H a = some (.lst us)) (n2 : ∀ n, W.r n ≠ some a) (n3 : ∀ i, W.o i ≠ some a) : Rel K C (W.also a) H σ fr st := by
  have X : ∀ {v p}, Den K C W H v p → Den K C (W.also a) H v p := fun d => d.mono (W' := W.also a) (fun _ h => Or.inl h) (fun _ _ h => h) fun _ _ h _ => h
  have Xs : ∀ {v p}, Dens K C W H v p → Dens K C (W.also a) H v p := fun d => d.mono (W' := W.also a) (fun _ h => Or.inl h) (fun _ _ h => h) fun _ _ h _ => h
  refine ⟨⟨⟨R.s.sep.rl, R.s.sep.ol, fun b h => ?_, fun b n h => ?_, fun b n h => ?_, R.s.sep.ro, R.s.sep.rr, R.s.sep.oo⟩, R.s.sz, fun n xs h => ?_, R.s.rn⟩, R.len, fun i p h => ?_, fun i xs h => ?_, R.on⟩
  · rcases h with h | rfl
    · exact R.s.sep.Fs b h
    · exact ⟨_, e⟩
  · rcases h with h | rfl
    · exact R.s.sep.Fr b n h
    · exact n2 n
  · rcases h with h | rfl
    · exact R.s.sep.Fo b n h
    · exact n3 n
  · obtain ⟨b, us, h1, h2, h3⟩ := R.s.str n xs h
    exact ⟨b, us, h1, h2, Xs h3⟩
  · obtain ⟨v, h1, h2⟩ := R.slt i p h
    exact ⟨v, h1, X h2⟩
  · obtain ⟨b, us, h1, h2, h3, h4⟩ := R.own i xs h
    exact ⟨b, us, h1, h2, h3, Xs h4⟩
theorem Ext.also {a : Addr} (X : Ext W H W' H') (h : H a = none) : Ext W H (W'.also a) H' where
  kp := X.kp
  th := X.th
  F := fun b e => .inl (X.F b e)
  Fn := fun b e => by
    rcases e with e | rfl
    · exact X.Fn b e
    · exact .inr h
  r := X.r
  rn := X.rn
theorem Dens.also {a : Addr} (d : Dens K C W H us xs) : Dens K C (W.also a) H us xs := d.mono (W' := W.also a) (fun _ h => Or.inl h) (fun _ _ h => h) fun _ _ h _ => h
theorem EndOk.fresh (h : EndOk K C W H σ fr st p Q) : EndFr K C W H σ fr st p Q :=
  ⟨fun W' H' v _ X o R D => h W' H' v X o R D, fun W' H' a us xs hp X o R e D n1 n2 n3 hn => by
    subst hp
    exact h (W'.also a) H' (.ref a) (X.also hn) o (R.also e n2 n3) (.inl (.lst (Or.inr rfl) e D.also))⟩
theorem tE_fr {f : Frm → Sto → Out PV} (h : tE K C Wx f σ H Q) : tFr K C Wx f σ H Q := by
  obtain ⟨W, fr, st, R, h⟩ := h
  exact ⟨W, fr, st, R, h.imp (fun _ _ z => EndOk.fresh z) fun _ _ _ z => z⟩

/-- what an operation gives: a plain value, a new list or tuple, a tuple that stands -/
def Gv (K : PySem.W.Frag) (C : Nat → Addr) (W : Wd) (H : Hp) (z : PV) (Q : VK) : Prop := match z with
  | .non => Q .non H
  | .bl b => Q (.bl b) H
  | .int i => Q (.int i) H
  | .str x => Q (.str x) H
  | .seq true xs => (∀ a us, H a = none → Dens K C W H us xs → Q (.ref a) (upd H a (.tup us))) ∧ ∀ a us, SqT K H a us → Dens K C W H us xs → Q (.ref a) H
  | .seq false xs => ∀ a us, H a = none → Dens K C W H us xs → Q (.ref a) (upd H a (.lst us))
  | _ => False
/-- .. is enough where a result is told fresh -/
def plainV : PV → Bool
  | .ref _ | .loc _ | .exc _ _ | .scr _ => false
  | _ => true
theorem EndFr.gv (R : Rel K C W H σ fr st) (h : EndFr K C W H σ fr st p Q) (pl : plainV p = true) : Gv K C W H p (fun v H' => Sz H' → Q v H') := by
  cases p with
  | non => exact fun z => h.1 W H _ (fun _ e => nomatch e) (.refl _ _) rfl R (.inl .non)
  | bl b => exact fun z => h.1 W H _ (fun _ e => nomatch e) (.refl _ _) rfl R (.inl (.bl b))
  | int i => exact fun z => h.1 W H _ (fun _ e => nomatch e) (.refl _ _) rfl R (.inl (.int i))
  | str x => exact fun z => h.1 W H _ (fun _ e => nomatch e) (.refl _ _) rfl R (.inl (.str x))
  | seq t xs =>
    cases t with
    | true =>
      refine ⟨fun a us hn D z => ?_, fun a us s D z => h.1 W H _ (fun _ e => nomatch e) (.refl _ _) rfl R (.inl (.tup s D))⟩
      exact h.1 W _ _ (fun _ e => nomatch e) (Ext.new hn) rfl (R.new hn z) (.inl (.tup (.inl (.inl upd_same)) (D.ext R.s.sep (Ext.new hn))))
    | false =>
      intro a us hn D z
      obtain ⟨n1, n2, n3⟩ := R.s.sep.free hn
      exact h.2 W _ a us xs rfl (Ext.new hn) rfl (R.new hn z) upd_same (D.ext R.s.sep (Ext.new hn)) n1 n2 n3 hn
  | ref n => cases pl
  | loc n => cases pl
  | exc c p => cases pl
  | scr xs => cases pl
end

/-! ### rules weakened -/
theorem PE_imp {X : Cx} {e : Expr} {t t' : TE} (h : PE X e t) (k : ∀ σ H Q, Sz H → t' σ H Q → t σ H (fun v H' => Sz H' → Q v H')) : PE X e t' := by
  refine ⟨fun pins s σ H Q I hw => ?_⟩
  exact thn (h.run pins s σ H _ I (k σ H Q (Inv.sz' I) hw)) fun u s1 ⟨x, H1, I1, r1, q1⟩ => ⟨x, H1, I1, r1, q1 (Inv.sz' I1)⟩
theorem PT_imp {X : Cx} {e : Expr} {t t' : TT} (h : PT X e t) (k : ∀ σ H Q, Sz H → t' σ H Q → t σ H (fun v H' => Sz H' → Q v H')) : PT X e t' := by
  refine ⟨fun pins s σ H Q I hw => ?_⟩
  exact thn (h.run pins s σ H _ I (k σ H Q (Inv.sz' I) hw)) fun u s1 ⟨H1, I1, q1⟩ => ⟨H1, I1, q1 (Inv.sz' I1)⟩
theorem PA_imp {X : Cx} {e : List Expr} {t t' : TA} (h : PA X e t) (k : ∀ σ H Q, Sz H → t' σ H Q → t σ H (fun v H' => Sz H' → Q v H')) : PA X e t' := by
  refine ⟨fun pos pins s σ H Q I hw => ?_⟩
  exact thn (h.run pos pins s σ H _ I (k σ H Q (Inv.sz' I) hw)) fun u s1 ⟨x, H1, I1, r1, q1⟩ => ⟨x, H1, I1, r1, q1 (Inv.sz' I1)⟩

section
variable {X : Cx} {C : Nat → Addr}
/-! ### operators by values -/
def rB (K : PySem.W.Frag) (C : Nat → Addr) (F : PV → PV → Option PV) : R2 := fun x y H Q => ∃ W p q z, DenB K C W H x p ∧ DenB K C W H y q ∧ F p q = some z ∧ Gv K C W H z Q

theorem small_iff {i : Int} : small i = true ↔ (-(2 ^ 64) < i ∧ i < 2 ^ 64) := by
  unfold small
  exact decide_eq_true_iff
theorem op_of {op : Operator} {r r' : R2} (h : OpR X (binaryOp op) r) (k : ∀ x y H Q, r' x y H Q → r x y H Q) : OpR X (binaryOp op) r' :=
  fun pins s σ H x y v u Q I rx ry q => h pins s σ H x y v u Q I rx ry (k x y H Q q)
end
end Rm
set_option Elab.async false
set_option linter.all false
set_option maxHeartbeats 4000000
/-! The operators of the small language, by the machine's. -/
namespace Rm
open PySem PySem.Spec L2

def opA : Op → Operator
  | .add => .Add | .sub => .Sub | .mul => .Mult | .fdiv => .FloorDiv | .mod => .Mod | .pow => .Pow
def copA : Cop → CmpOp
  | .eq => .Eq | .ne => .NotEq | .lt => .Lt | .le => .LtE | .gt => .Gt | .ge => .GtE | .isin => .In | .notin => .NotIn | .is_ => .Is | .isnot => .IsNot

section
variable {X : Cx} {C : Nat → Addr}

theorem fits_iff {n : Nat} : fits n = true ↔ n ≤ sizeLine := by
  unfold fits
  exact decide_eq_true_iff

/-! ### tuple * int, of any size -/
theorem noFillT : fillsNumberSlot (.type "tuple") "mul" = pure false := noFill_tuple_mul
theorem tmul0 (l : Addr) (items : Array Value) (n : Nat) (dd : Option Addr) (sl : Array (Option Value)) (x : Int) (u : Tok) (c0 : (decide (x < -(2 ^ 63)) || decide (x ≥ 2 ^ 63)) = false) (c1 : (items.isEmpty || x == 1) = true) :
    Meets (Builtin.«tuple.__mul__» ⟨[.ref l, .int x u], []⟩) (fun _ R s => s.heap.get? l = some { cls := .type "tuple", dict := dd, data := .seq items n, slots := sl } ∧ R (.ok (.ret (Value.ref l))) s) :=
  .of_wp fun prog w A R s h => by
    obtain ⟨hp, g, d, tk, os⟩ := s
    obtain ⟨hl, h⟩ := h
    have f1 := AutoSeq1.idx_int
    wp_walk using wpAny_loadPart' hl
    refine wpAny_ite_false (decide_eq_false (by rw [c0]; exact Bool.false_ne_true)) ?_
    wp_walk using wpAny_loadPart' hl
    exact ⟨_, rfl, h⟩
theorem tmul1 (l : Addr) (items : Array Value) (n : Nat) (dd : Option Addr) (sl : Array (Option Value)) (x : Int) (u : Tok) (c0 : (decide (x < -(2 ^ 63)) || decide (x ≥ 2 ^ 63)) = false) (c1 : (items.isEmpty || x == 1) = false) (c2 : (decide (x ≤ 0) || items.isEmpty) = true) :
    Meets (Builtin.«tuple.__mul__» ⟨[.ref l, .int x u], []⟩) (fun _ R s => s.heap.get? l = some { cls := .type "tuple", dict := dd, data := .seq items n, slots := sl } ∧
      R (.ok (.ret (Value.ref s.heap.objs.size))) { s with heap := s.heap.push { cls := Value.type "tuple", data := Data.seq #[] } }) :=
  .of_wp fun prog w A R s h => by
    obtain ⟨hp, g, d, tk, os⟩ := s
    obtain ⟨hl, h⟩ := h
    have f1 := AutoSeq1.idx_int
    wp_walk using wpAny_loadPart' hl
    refine wpAny_ite_false (decide_eq_false (by rw [c0]; exact Bool.false_ne_true)) ?_
    wp_walk using wpAny_loadPart' hl
    exact ⟨_, rfl, h⟩
def rRepA (K : PySem.W.Frag) : R2 := fun x y H Q => ∃ l k xs, x = .ref l ∧ y = .int k ∧ SqT K H l xs ∧ -(2 ^ 63) ≤ k ∧ k < 2 ^ 63 ∧ xs.length * k.toNat ≤ sizeLine ∧
  (xs = [] ∨ k = 1 → Q (.ref l) H) ∧ ∀ p, H p = none → Q (.ref p) (upd H p (.tup (List.replicate k.toNat xs).flatten))
theorem op_repA : OpR X (binaryOp .Mult) (rRepA X.K) := by
  intro pins s σ H x y v u Q I rx ry h
  obtain ⟨l, k, xs, rfl, rfl, hT, h1, h2, hz, q0, q⟩ := h
  cases rx
  obtain ⟨t, rfl⟩ := ry
  obtain ⟨its, r, ⟨⟨cls, dd, data, sl⟩, ho, hc, n, hd⟩, hs⟩ := I.tuple hT
  simp only at hc hd
  subst hc hd
  have hle : its.length = xs.length := r.length.symm
  have hsz0 : its.toArray.size = xs.length := by rw [List.size_toArray, hle]
  have c0 : (decide (k < -(2 ^ 63)) || decide (k ≥ 2 ^ 63)) = false := by
    rw [decide_eq_false (by omega), decide_eq_false (by omega)] <;> rfl
  have road : ∀ {Q' : Value → Shared → Prop} {S : Builtin} , True := fun {_ _} => trivial
  by_cases hb : (its.toArray.isEmpty || k == 1) = true
  · have hx : xs = [] ∨ k = 1 := by
      rw [Bool.or_eq_true] at hb
      rcases hb with hb | hb
      · left
        have : its.toArray.size = 0 := by simpa [Array.isEmpty] using hb
        exact List.eq_nil_of_length_eq_zero (by omega)
      · exact .inr (by simpa using hb)
    refine wpAny_binaryOp_repeat_ref (T := "tuple") (U := "int") (by decide) ⟨_, ho, rfl⟩ (fun s' => typeIs_int s' k t) noFill_tuple_mul F.fills_int_mul F.slot_int_rmul repeat_tuple F.slot_int_index.lookup
      (call_meets F.slot_int_rmul (typeIs_int s k t) F.entry_int_rmul (F.args_int_rmul_2 _ _) (int_rmul_tuple k t l its.toArray n dd sl)
        ⟨ho, rfl, ⟨_, ho, rfl⟩, call_meets F.slot_tuple_mul ⟨_, ho, rfl⟩ F.entry_tuple_mul (F.args_tuple_mul_2 _ _) (tmul0 l its.toArray n dd sl k t c0 hb) ⟨ho, ?_⟩⟩)
    exact ⟨.ref l, H, I, rfl, q0 hx⟩
  · have c1 : (its.toArray.isEmpty || k == 1) = false := by simpa using hb
    have hne : its.toArray.isEmpty = false := by
      rw [Bool.or_eq_false_iff] at c1
      exact c1.1
    by_cases hk : k ≤ 0
    · have c2 : (decide (k ≤ 0) || its.toArray.isEmpty) = true := by rw [decide_eq_true hk]; rfl
      refine wpAny_binaryOp_repeat_ref (T := "tuple") (U := "int") (by decide) ⟨_, ho, rfl⟩ (fun s' => typeIs_int s' k t) noFill_tuple_mul F.fills_int_mul F.slot_int_rmul repeat_tuple F.slot_int_index.lookup
        (call_meets F.slot_int_rmul (typeIs_int s k t) F.entry_int_rmul (F.args_int_rmul_2 _ _) (int_rmul_tuple k t l its.toArray n dd sl)
          ⟨ho, rfl, ⟨_, ho, rfl⟩, call_meets F.slot_tuple_mul ⟨_, ho, rfl⟩ F.entry_tuple_mul (F.args_tuple_mul_2 _ _) (tmul1 l its.toArray n dd sl k t c0 c1 c2) ⟨ho, ?_⟩⟩)
      have e0 : (List.replicate k.toNat xs).flatten = [] := by
        rw [show k.toNat = 0 by omega]
        rfl
      have qq := q _ (I.hok.fresh (Nat.le_refl _))
      rw [e0] at qq
      exact ⟨.ref s.heap.objs.size, _, I.laid (t' := s.toks) (o := .tup []) (fun b ob q => Heap.get?_push_of_some _ q) (Nat.le_refl _) ⟨Nat.zero_le _, [], .nil, PyProof.Rows.IsTup.new _ _⟩, rfl, qq⟩
    · have c2 : (decide (k ≤ 0) || its.toArray.isEmpty) = false := by rw [decide_eq_false hk, hne]; rfl
      have flen : (List.replicate k.toNat its).flatten.length ≤ sizeLine := by
        rw [PyProof.Rows.lm_len_rep_flat, hle, Nat.mul_comm]
        exact hz
      have hm : ((its.toArray.size : Nat) : Int) * k ≤ (sizeLine : Nat) := by
        rw [hsz0]
        have e : ((xs.length : Nat) : Int) * k = ((xs.length * k.toNat : Nat) : Int) := by
          rw [Int.natCast_mul, Int.toNat_of_nonneg (by omega)]
        rw [e]
        omega
      have hS := sizeLine_eq
      have c4 : Builtin.Tuple.tupleTooMany (((its.toArray.size : Nat) : Int) * k) = false := by
        unfold Builtin.Tuple.tupleTooMany
        exact decide_eq_false (by omega)
      refine wpAny_binaryOp_repeat_ref (T := "tuple") (U := "int") (by decide) ⟨_, ho, rfl⟩ (fun s' => typeIs_int s' k t) noFill_tuple_mul F.fills_int_mul F.slot_int_rmul repeat_tuple F.slot_int_index.lookup
        (call_meets F.slot_int_rmul (typeIs_int s k t) F.entry_int_rmul (F.args_int_rmul_2 _ _) (int_rmul_tuple k t l its.toArray n dd sl)
          ⟨ho, rfl, ⟨_, ho, rfl⟩, call_meets F.slot_tuple_mul ⟨_, ho, rfl⟩ F.entry_tuple_mul (F.args_tuple_mul_2 _ _) (tuple_mulW l its.toArray n dd sl k t c0 c1 c2 (by omega) c4 (by rw [size_rep, List.size_toArray]; exact flen)) ⟨ho, ?_⟩⟩)
      rw [size_rep]
      refine ⟨.ref s.heap.objs.size, _, I.laid (t' := s.toks) (o := .tup (List.replicate k.toNat xs).flatten) (fun b ob q => Heap.get?_push_of_some _ q) (Nat.le_refl _) ?_, rfl, q _ (I.hok.fresh (Nat.le_refl _))⟩
      exact ⟨by rw [PyProof.Rows.lm_len_rep_flat, Nat.mul_comm]; exact hz, _, r.rep k.toNat, PyProof.Rows.IsTup.new _ _⟩

theorem op_binF (op : Op) : OpR X (binaryOp (opA op)) (rB X.K C (binF op)) := by
  intro pins s σ H x y v u Q I rx ry h
  obtain ⟨W, p, q, z, dx, dy, hf, g⟩ := h
  cases op with
  | add =>
    cases p <;> cases q <;> simp only [binF, reduceCtorEq] at hf
    case int.int i j =>
      cases hf
      obtain rfl := dx.int
      obtain rfl := dy.int
      exact op_add pins s σ H _ _ v u Q I rx ry ⟨i, j, rfl, rfl, g⟩
    case int.bl i b =>
      cases hf
      obtain rfl := dx.int
      obtain rfl := dy.bl
      refine op_add_ib pins s σ H _ _ v u Q I rx ry ⟨i, b, rfl, rfl, ?_⟩
      cases b
      · exact g
      · exact g
    case seq.seq t xs t' ys =>
      split at hf
      · rename_i hc
        obtain ⟨rfl, hz⟩ := hc
        rw [fits_iff] at hz
        cases hf
        cases t with
        | false =>
          obtain ⟨a, us, rfl, ha, da⟩ := dx.list
          obtain ⟨b, ws, rfl, hb, db⟩ := dy.list
          exact op_cat pins s σ H _ _ v u Q I rx ry ⟨a, b, us, ws, rfl, rfl, ha, hb, by rw [da.len, db.len]; exact hz, fun pp hp => g pp _ hp (da.app db)⟩
        | true =>
          obtain ⟨a, us, rfl, ha, da⟩ := dx.tup
          obtain ⟨b, ws, rfl, hb, db⟩ := dy.tup
          refine op_catA pins s σ H _ _ v u Q I rx ry ⟨a, b, us, ws, rfl, rfl, ha, hb, by rw [da.len, db.len]; exact hz, fun e => ?_, fun _ e => ?_, fun _ _ pp hp => g.1 pp _ hp (da.app db)⟩
          · have dd := da.app db
            rw [e, List.nil_append] at dd
            exact g.2 _ _ hb dd
          · have dd := da.app db
            rw [e, List.append_nil] at dd
            exact g.2 _ _ ha dd
      · cases hf
  | sub =>
    cases p <;> cases q <;> simp only [binF, reduceCtorEq] at hf
    cases hf
    obtain rfl := dx.int
    obtain rfl := dy.int
    exact op_sub pins s σ H _ _ v u Q I rx ry ⟨_, _, rfl, rfl, g⟩
  | mul =>
    cases p <;> cases q <;> simp only [binF, reduceCtorEq] at hf
    case int.int i j =>
      split at hf
      · rename_i hc
        cases hf
        obtain rfl := dx.int
        obtain rfl := dy.int
        rw [small_iff, small_iff] at hc
        exact op_mul pins s σ H _ _ v u Q I rx ry ⟨_, _, rfl, rfl, hc, g⟩
      · cases hf
    case seq.int t xs k =>
      split at hf
      · rename_i hc
        obtain ⟨_, h1, h2, h3⟩ := hc
        rw [fits_iff] at h3
        cases hf
        obtain rfl := dy.int
        cases t with
        | false =>
          obtain ⟨a, us, rfl, ha, da⟩ := dx.list
          exact op_rep pins s σ H _ _ v u Q I rx ry ⟨a, k, us, rfl, rfl, ha, h2, h1, by rw [da.len]; exact h3, fun pp hp => g pp _ hp (da.rep _)⟩
        | true =>
          obtain ⟨a, us, rfl, ha, da⟩ := dx.tup
          refine op_repA pins s σ H _ _ v u Q I rx ry ⟨a, k, us, rfl, rfl, ha, h2, h1, by rw [da.len]; exact h3, fun e => ?_, fun pp hp => g.1 pp _ hp (da.rep _)⟩
          have dd := da.rep k.toNat
          have e2 : (List.replicate k.toNat us).flatten = us := by
            rcases e with e | e
            · subst e
              induction k.toNat with
              | zero => rfl
              | succ m ih => rw [List.replicate_succ, List.flatten_cons, ih]; rfl
            · subst e
              show (List.replicate 1 us).flatten = us
              simp
          rw [e2] at dd
          exact g.2 _ _ ha dd
      · cases hf
  | fdiv =>
    cases p <;> cases q <;> simp only [binF, reduceCtorEq] at hf
    split at hf
    · rename_i hc
      cases hf
      obtain rfl := dx.int
      obtain rfl := dy.int
      exact op_fdivN pins s σ H _ _ v u Q I rx ry ⟨_, _, rfl, rfl, hc, g⟩
    · cases hf
  | mod =>
    cases p <;> cases q <;> simp only [binF, reduceCtorEq] at hf
    split at hf
    · rename_i hc
      cases hf
      obtain rfl := dx.int
      obtain rfl := dy.int
      exact op_modN pins s σ H _ _ v u Q I rx ry ⟨_, _, rfl, rfl, hc, g⟩
    · cases hf
  | pow =>
    cases p <;> cases q <;> simp only [binF, reduceCtorEq] at hf
    split at hf
    · rename_i hc
      cases hf
      obtain rfl := dx.int
      obtain rfl := dy.int
      exact op_pow pins s σ H _ _ v u Q I rx ry ⟨_, _, rfl, rfl, hc, g⟩
    · cases hf
end
end Rm
set_option Elab.async false
set_option linter.all false
set_option maxHeartbeats 4000000
/-! Comparisons, truth, places, slices, built-ins of the small language, by the machine's. -/
namespace Rm
open PySem PySem.Spec L2

section
variable {X : Cx} {C : Nat → Addr}
theorem PT_use {c : Prop} (h : c) : c := h
/-! ### comparisons -/
def rC (K : PySem.W.Frag) (C : Nat → Addr) (op : Cop) : R2 := fun x y H Q => ∃ W p q k, DenB K C W H x p ∧ DenB K C W H y q ∧ cmpF op p q = some k ∧ Q (.bl k) H

theorem eqF_dp {W : Wd} {H : Hp} {x y : V} {p q : PV} {k : Bool} (dx : DenB X.K C W H x p) (dy : DenB X.K C W H y q) (h : eqF p q = some k) :
    Dp X.K H x (dat p) ∧ Dp X.K H y (dat q) ∧ SeqAt.shaped (dat p) = true ∧ SeqAt.shaped (dat q) = true ∧ k = PyData.eqv (dat p) (dat q) := by
  unfold eqF at h
  split at h
  · rename_i hc
    cases h
    obtain ⟨a1, a2⟩ := okEq_shaped hc.1
    obtain ⟨b1, b2⟩ := okEq_shaped hc.2
    exact ⟨dx.dp a1, dy.dp b1, a2, b2, rfl⟩
  · cases h
theorem inF_dp {W : Wd} {H : Hp} {x y : V} {p : PV} {t : Bool} {xs : List PV} {k : Bool} (dx : DenB X.K C W H x p) (dy : DenB X.K C W H y (.seq t xs)) (h : inF p xs = some k) :
    Dp X.K H x (dat p) ∧ Dp X.K H y (dat (.seq t xs)) ∧ SeqAt.shaped (dat p) = true ∧ SeqAt.shaped (dat (.seq t xs)) = true ∧ k = (dats xs).any fun z => PyData.eqv z (dat p) := by
  unfold inF at h
  split at h
  · rename_i hc
    cases h
    obtain ⟨a1, a2⟩ := okEq_shaped hc.1
    have hs : okEq (.seq t xs) = true := by
      have h2 := hc.2
      cases t
      · unfold okEq at h2 ⊢
        simpa [isDat, dat, PyData.depth] using h2
      · exact h2
    obtain ⟨b1, b2⟩ := okEq_shaped hs
    exact ⟨dx.dp a1, dy.dp b1, a2, b2, rfl⟩
  · cases h
theorem op_inT (hu : X.A.units + 65 < cLine) {neg : Bool} : OpR X (compareOp (if neg then .NotIn else .In)) (fun x y H Q => ∃ d ds, Dp X.K H x d ∧ Dp X.K H y (.tuple ds) ∧ SeqAt.shaped d = true ∧ SeqAt.shaped (.tuple ds) = true ∧ Q (.bl (if neg then !ds.any fun z => PyData.eqv z d else ds.any fun z => PyData.eqv z d)) H) := by
  intro pins s σ H x y v u Q I rx ry h
  obtain ⟨d, ds, hd, he, sd, se, q⟩ := h
  obtain ⟨as, r1⟩ := Dp.reads I d x v hd rx
  obtain ⟨bs, r2⟩ := Dp.reads I (.tuple ds) y u he ry
  cases neg
  · exact SeqAt.in_tuple_reads r2 r1 (SeqAt.canLay_of_shaped se) (SeqAt.canLay_of_shaped sd) (PyProof.Rows.room_in_shaped sd hu) ⟨.bl _, H, I, rfl, q⟩
  · exact SeqAt.notIn_tuple_reads r2 r1 (SeqAt.canLay_of_shaped se) (SeqAt.canLay_of_shaped sd) (PyProof.Rows.room_in_shaped sd hu) ⟨.bl _, H, I, rfl, q⟩

theorem op_cmpF (hu : X.A.units + 65 < cLine) (op : Cop) : OpR X (compareOp (copA op)) (rC X.K C op) := by
  intro pins s σ H x y v u Q I rx ry h
  obtain ⟨W, p, q, k, dx, dy, hf, g⟩ := h
  have hu64 : X.A.units + 64 < cLine := by omega
  cases op with
  | eq =>
    obtain ⟨h1, h2, h3, h4, rfl⟩ := eqF_dp dx dy hf
    exact op_eqD hu64 pins s σ H x y v u Q I rx ry ⟨_, _, h1, h2, h3, h4, g⟩
  | ne =>
    simp only [cmpF, Option.map_eq_some_iff] at hf
    obtain ⟨k', hf, rfl⟩ := hf
    obtain ⟨h1, h2, h3, h4, rfl⟩ := eqF_dp dx dy hf
    exact op_neD hu64 pins s σ H x y v u Q I rx ry ⟨_, _, h1, h2, h3, h4, g⟩
  | lt =>
    cases p <;> cases q <;> simp only [cmpF, reduceCtorEq] at hf
    cases hf
    obtain rfl := dx.int
    obtain rfl := dy.int
    exact op_lt pins s σ H _ _ v u Q I rx ry ⟨_, _, rfl, rfl, g⟩
  | le =>
    cases p <;> cases q <;> simp only [cmpF, reduceCtorEq] at hf
    cases hf
    obtain rfl := dx.int
    obtain rfl := dy.int
    exact op_le pins s σ H _ _ v u Q I rx ry ⟨_, _, rfl, rfl, g⟩
  | gt =>
    cases p <;> cases q <;> simp only [cmpF, reduceCtorEq] at hf
    cases hf
    obtain rfl := dx.int
    obtain rfl := dy.int
    exact op_gt pins s σ H _ _ v u Q I rx ry ⟨_, _, rfl, rfl, g⟩
  | ge =>
    cases p <;> cases q <;> simp only [cmpF, reduceCtorEq] at hf
    cases hf
    obtain rfl := dx.int
    obtain rfl := dy.int
    exact op_ge pins s σ H _ _ v u Q I rx ry ⟨_, _, rfl, rfl, g⟩
  | isin =>
    cases q <;> simp only [cmpF, reduceCtorEq] at hf
    rename_i t xs
    obtain ⟨h1, h2, h3, h4, rfl⟩ := inF_dp dx dy hf
    cases t with
    | false =>
      simp only [dat] at h2 h4
      exact op_inD hu pins s σ H x y v u Q I rx ry ⟨_, _, h1, h2, h3, h4, g⟩
    | true =>
      simp only [dat] at h2 h4
      exact op_inT (neg := false) hu pins s σ H x y v u Q I rx ry ⟨_, _, h1, h2, h3, h4, g⟩
  | notin =>
    cases q <;> simp only [cmpF, reduceCtorEq, Option.map_eq_some_iff] at hf
    rename_i t xs
    obtain ⟨k', hf, rfl⟩ := hf
    obtain ⟨h1, h2, h3, h4, rfl⟩ := inF_dp dx dy hf
    cases t with
    | false =>
      simp only [dat] at h2 h4
      exact op_notInD hu pins s σ H x y v u Q I rx ry ⟨_, _, h1, h2, h3, h4, g⟩
    | true =>
      simp only [dat] at h2 h4
      exact op_inT (neg := true) hu pins s σ H x y v u Q I rx ry ⟨_, _, h1, h2, h3, h4, g⟩
  | is_ =>
    simp only [cmpF] at hf
    have key : ∀ b, (q = .non) → (decide (x = .non) = b) → Q (.bl b) H → wpAny (model X.prog X.w) X.A (compareOp .Is v u) (EP X pins σ Q) X.xe s := fun b e1 e2 g' => by
      subst e1
      obtain rfl := dy.non
      exact op_isN pins s σ H x _ v u Q I rx ry ⟨rfl, by rw [e2]; exact g'⟩
    have nn : p ≠ .non → x ≠ .non := fun hp e => by
      subst e
      rcases dx with d | ⟨a, us, xs, _, e, _⟩
      · cases d
        exact hp rfl
      · cases e
    cases p <;> cases q <;> simp only [isF, reduceCtorEq] at hf
    case non.non =>
      cases hf
      obtain rfl := dx.non
      exact key true rfl rfl g
    case bl.bl a b =>
      cases hf
      obtain rfl := dx.bl
      obtain rfl := dy.bl
      exact op_isBl pins s σ H _ _ v u Q I rx ry ⟨_, _, rfl, rfl, g⟩
    all_goals
      cases hf
      exact key false rfl (decide_eq_false (nn (fun z => by cases z))) g
  | isnot =>
    simp only [cmpF] at hf
    have key : ∀ b, (q = .non) → ((!decide (x = .non)) = b) → Q (.bl b) H → wpAny (model X.prog X.w) X.A (compareOp .IsNot v u) (EP X pins σ Q) X.xe s := fun b e1 e2 g' => by
      subst e1
      obtain rfl := dy.non
      exact op_notN pins s σ H x _ v u Q I rx ry ⟨rfl, by rw [e2]; exact g'⟩
    have nn : p ≠ .non → x ≠ .non := fun hp e => by
      subst e
      rcases dx with d | ⟨a, us, xs, _, e, _⟩
      · cases d
        exact hp rfl
      · cases e
    cases p <;> cases q <;> simp only [isF, reduceCtorEq, Option.map_some, Option.map_none] at hf
    case non.non =>
      cases hf
      obtain rfl := dx.non
      exact key false rfl rfl g
    case bl.bl a b =>
      cases hf
      obtain rfl := dx.bl
      obtain rfl := dy.bl
      exact op_notBl pins s σ H _ _ v u Q I rx ry ⟨_, _, rfl, rfl, g⟩
    all_goals
      cases hf
      exact key true rfl (by rw [decide_eq_false (nn (fun z => by cases z))]; rfl) g

/-! ### truth -/
theorem truF_ok {W : Wd} {H : Hp} {x : V} {p : PV} {k : Bool} (d : DenB X.K C W H x p) (h : truF p = some k) : TruV X.K x H k := by
  cases p <;> simp only [truF, reduceCtorEq] at h
  case non =>
    cases h
    obtain rfl := d.non
    rfl
  case bl b =>
    cases h
    obtain rfl := d.bl
    rfl
  case int i =>
    cases h
    obtain rfl := d.int
    rfl
  case str y =>
    split at h
    · rename_i hc
      rw [fits_iff] at hc
      cases h
      obtain rfl := d.str
      refine ⟨hc, ?_⟩
      by_cases e : y.length = 0
      · simp [e]
      · have e2 : ((y.length : Int) != 0) = true := by
          rw [bne_iff_ne]
          omega
        rw [e2, bne_iff_ne]
        exact e
    · cases h
  case seq t xs =>
    cases h
    obtain ⟨a, us, rfl, hs, ds⟩ := d.seqv
    have e : xs.isEmpty = us.isEmpty := by cases ds <;> rfl
    rw [e]
    rcases hs with hs | hs
    · exact .inl ⟨us, hs, rfl⟩
    · exact .inr (.inl ⟨us, hs, rfl⟩)

/-! ### places -/
theorem Dens.at {W : Wd} {H : Hp} {us : List V} {xs : List PV} {i : Int} {p : PV} (d : Dens X.K C W H us xs) (h : atI xs i = some p) : ∃ u, atI us i = some u ∧ Den X.K C W H u p := by
  unfold atI at h ⊢
  rw [d.len]
  cases e : ixN xs.length i with
  | none =>
    rw [e] at h
    cases h
  | some j =>
    rw [e] at h
    exact d.get h
def rX (K : PySem.W.Frag) (C : Nat → Addr) : R2 := fun x y H Q => ∃ W p q z, DenB K C W H x p ∧ DenM K C W H y q ∧ idxF p q = some z ∧ ∀ v, Den K C W H v z → Q v H
theorem ix_idxF : IxR X (rX X.K C) := by
  intro pins s σ H x y v u a b Q I rx ry h hs
  refine ix_seq pins s σ H x y v u a b Q I rx ry ?_ hs
  obtain ⟨W, p, q, z, dx, dy, hf, g⟩ := h
  cases p <;> cases q <;> simp only [idxF, reduceCtorEq] at hf
  rename_i t xs i
  have dy := dy.den rfl
  cases dy
  cases t with
  | false =>
    obtain ⟨a, us, rfl, hs, ds⟩ := dx.list
    obtain ⟨w, h1, h2⟩ := ds.at hf
    exact .inl ⟨a, us, i, w, rfl, rfl, SqL.of hs, h1, g w h2⟩
  | true =>
    obtain ⟨a, us, rfl, hs, ds⟩ := dx.tup
    obtain ⟨w, h1, h2⟩ := ds.at hf
    exact .inr (.inl ⟨a, us, i, w, rfl, rfl, hs, h1, g w h2⟩)

/-! ### slices -/
theorem Dens.cut {W : Wd} {H : Hp} {us : List V} {xs : List PV} (d : Dens X.K C W H us xs) (lo hi : Option Int) :
    Dens X.K C W H (cutV us lo hi) ((xs.drop (HT.sIx xs.length 0 lo)).take (HT.sIx xs.length xs.length hi - HT.sIx xs.length 0 lo)) := by
  unfold cutV
  rw [d.len]
  exact (d.drop _).take _
def rSl (K : PySem.W.Frag) (C : Nat → Addr) : V → Option Int → Option Int → Hp → VK → Prop := fun x lo hi H Q => ∃ W p z, DenB K C W H x p ∧ cutF lo hi p = some z ∧ Gv K C W H z Q
theorem sl_cutF : SlR X (rSl X.K C) := by
  intro pins s σ H x v vl vu lo hi sl Q I rx hs pl pu h
  obtain ⟨W, p, z, dx, hf, g⟩ := h
  cases p <;> simp only [cutF, reduceCtorEq] at hf
  case seq t xs =>
    cases hf
    cases t with
    | false =>
      obtain ⟨a, us, rfl, ha, ds⟩ := dx.list
      exact sl_list pins s σ H _ v vl vu lo hi sl Q I rx hs pl pu ⟨a, us, rfl, SqL.of ha, fun pp hp => g pp _ hp (ds.cut lo hi)⟩
    | true =>
      obtain ⟨a, us, rfl, ha, ds⟩ := dx.tup
      refine sl_tupA pins s σ H _ v vl vu lo hi sl Q I rx hs pl pu ⟨a, us, rfl, ha, fun hw => ?_, fun _ pp hp => g.1 pp _ hp (ds.cut lo hi)⟩
      have dd := ds.cut lo hi
      have e : cutV us lo hi = us := by
        unfold cutV
        rw [hw.1, hw.2, List.drop_zero, Nat.sub_zero, List.take_length]
      rw [e] at dd
      exact g.2 a us ha dd
  case scr xs =>
    cases hf
    obtain ⟨a, us, rfl, ha, ds⟩ := dx.scr
    exact sl_list pins s σ H _ v vl vu lo hi sl Q I rx hs pl pu ⟨a, us, rfl, ha, fun pp hp => g pp _ hp (ds.cut lo hi)⟩

/-! ### built-ins -/
abbrev DensB (K : PySem.W.Frag) (C : Nat → Addr) (W : Wd) (H : Hp) : List V → List PV → Prop := Paired (DenB K C W H)
theorem Rel.derefs {W : Wd} {H : Hp} {σ : St} {fr : Frm} {st : Sto} (R : Rel X.K C W H σ fr st) : ∀ {us : List V} {xs : List PV}, DensM X.K C W H us xs → DensB X.K C W H us (xs.map (Rm.deref fr st))
  | _, _, .nil => .nil
  | _, _, .cons r t => .cons (R.deref r) (Rel.derefs R t)
theorem intL_ok {W : Wd} {H : Hp} : ∀ {xs : List PV} {ns : List Int} {us : List V}, Dens X.K C W H us xs → intL xs = some ns → us = ns.map V.int
  | [], _, _, .nil, h => by
    cases h
    rfl
  | p :: xs, ns, _, .cons r t, h => by
    cases p <;> simp only [intL, reduceCtorEq, Option.map_eq_some_iff] at h
    obtain ⟨ms, h1, rfl⟩ := h
    cases r
    rw [intL_ok t h1]
    rfl
theorem boolL_ok {W : Wd} {H : Hp} : ∀ {xs : List PV} {bs : List Bool} {us : List V}, Dens X.K C W H us xs → boolL xs = some bs → us = bs.map V.bl
  | [], _, _, .nil, h => by
    cases h
    rfl
  | p :: xs, ns, _, .cons r t, h => by
    cases p <;> simp only [boolL, reduceCtorEq, Option.map_eq_some_iff] at h
    obtain ⟨ms, h1, rfl⟩ := h
    cases r
    rw [boolL_ok t h1]
    rfl

def bltV : Blt → Value
  | .len => .builtin "len" | .sum => .builtin "sum" | .all => .builtin "all" | .any => .builtin "any"
  | .int => .type "int" | .str => .type "str" | .bool => .type "bool" | .repr => .builtin "repr" | .tuple => .type "tuple" | .list => .type "list"
  | .sorted => .builtin "sorted" | .abs => .builtin "abs" | .max => .builtin "max" | .min => .builtin "min"
def rBlt (K : PySem.W.Frag) (C : Nat → Addr) (b : Blt) : List V → Hp → VK → Prop := fun vs H Q => ∃ W ps z, DensB K C W H vs ps ∧ bltF b ps = some z ∧ Gv K C W H z Q
theorem okRepr_of {p : PV} (h : okRepr p = true) : isDat p = true ∧ (dat p).depth ≤ 64 ∧ (dat p).showable = true ∧ (dat p).shown.length ≤ sizeLine := by
  unfold okRepr at h
  simp only [Bool.and_eq_true, decide_eq_true_eq] at h
  exact ⟨h.1.1.1, h.1.1.2, h.1.2, h.2⟩
theorem call_reprD (hu : X.A.units + 65 < cLine) (hg : X.A.guards = some []) : CallR X (.builtin "repr") (fun vs H Q => ∃ v d, vs = [v] ∧ Dp X.K H v d ∧ d.canLay0 = true ∧ d.depth ≤ 64 ∧ d.showable = true ∧ d.shown.length ≤ sizeLine ∧ Q (.str d.shown) H) := by
  intro pins s σ H xs us Q I r h
  obtain ⟨v, d, rfl, hd, hl, h1, h2, h3, q⟩ := h
  obtain ⟨u, rfl, ru⟩ := vals1 r
  obtain ⟨as, rd⟩ := Dp.reads I d v u hd ru
  cases hd with
  | non =>
    cases ru
    exact PySem.P.repr_of_none ⟨.str _, H, I.tok _, ⟨_, rfl⟩, q⟩
  | bl b =>
    cases ru
    exact PySem.P.repr_of_bool ⟨.str _, H, I.tok _, ⟨_, rfl⟩, q⟩
  | int i =>
    obtain ⟨t, rfl⟩ := ru
    exact PySem.P.repr_of_int (by simpa [PyData.showable] using h2) ⟨.str _, H, I.tok _, ⟨_, rfl⟩, q⟩
  | str x =>
    obtain ⟨t, rfl⟩ := ru
    exact PySem.P.repr_of_str ⟨.str _, H, I.tok _, ⟨_, rfl⟩, q⟩ (by simpa only [PyData.shown] using h3)
  | lst hs ha =>
    cases ru
    exact PySem.repr_of_reads' rd h2 (PyData.noDict_hsm (PyData.hasDict_of_canLay _ hl)) hg (by omega) (fun _ _ e => e) (fun h' u tk hk => ⟨.str _, H, I.kept (t' := tk) hk, ⟨_, rfl⟩, q⟩) h3
  | tup hs ha =>
    cases ru
    exact PySem.repr_of_reads' rd h2 (PyData.noDict_hsm (PyData.hasDict_of_canLay _ hl)) hg (by omega) (fun _ _ e => e) (fun h' u tk hk => ⟨.str _, H, I.kept (t' := tk) hk, ⟨_, rfl⟩, q⟩) h3

theorem call_bltF (hc : X.calm = true) (hu : X.A.units + 65 < cLine) (hg : X.A.guards = some []) (b : Blt) : CallR X (bltV b) (rBlt X.K C b) := by
  intro pins s σ H vs us Q I r h
  obtain ⟨W, ps, z, ds, hf, g⟩ := h
  rcases ds with _ | ⟨d1, ds⟩
  · cases b <;> simp only [bltF, reduceCtorEq] at hf
  rename_i v p vs' ps'
  rcases ds with _ | ⟨d2, ds⟩
  · cases b
    case len =>
      cases p <;> simp only [bltF, reduceCtorEq] at hf
      case seq t xs =>
        cases hf
        obtain ⟨a, us', rfl, hs, dd⟩ := d1.seqv
        refine call_len_seq pins s σ H _ us Q I r ⟨a, us', rfl, hs, ?_⟩
        rw [dd.len]
        exact g
      case scr xs =>
        cases hf
        obtain ⟨a, us', rfl, hs, dd⟩ := d1.scr
        refine call_len_seq pins s σ H _ us Q I r ⟨a, us', rfl, .inl hs, ?_⟩
        rw [dd.len]
        exact g
    case sum =>
      cases p <;> simp only [bltF, reduceCtorEq] at hf
      rename_i t xs
      cases t <;> simp only [reduceCtorEq, Option.map_eq_some_iff] at hf
      obtain ⟨ns, hn, rfl⟩ := hf
      obtain ⟨a, us', rfl, hs, dd⟩ := d1.list
      obtain rfl := intL_ok dd hn
      exact cr_sum hc pins s σ H _ us Q I r ⟨a, ns, rfl, SqL.of hs, g⟩
    case all =>
      cases p <;> simp only [bltF, reduceCtorEq] at hf
      rename_i t xs
      cases t <;> simp only [reduceCtorEq, Option.map_eq_some_iff] at hf
      obtain ⟨ns, hn, rfl⟩ := hf
      obtain ⟨a, us', rfl, hs, dd⟩ := d1.list
      obtain rfl := boolL_ok dd hn
      exact cr_all hc pins s σ H _ us Q I r ⟨a, ns, rfl, SqL.of hs, g⟩
    case any =>
      cases p <;> simp only [bltF, reduceCtorEq] at hf
      rename_i t xs
      cases t <;> simp only [reduceCtorEq, Option.map_eq_some_iff] at hf
      obtain ⟨ns, hn, rfl⟩ := hf
      obtain ⟨a, us', rfl, hs, dd⟩ := d1.list
      obtain rfl := boolL_ok dd hn
      exact cr_any hc pins s σ H _ us Q I r ⟨a, ns, rfl, SqL.of hs, g⟩
    case int =>
      cases p <;> simp only [bltF, reduceCtorEq] at hf
      case int i =>
        cases hf
        obtain rfl := d1.int
        exact call_int1 pins s σ H _ us Q I r (.inl ⟨_, rfl, g⟩)
      case bl b =>
        cases hf
        obtain rfl := d1.bl
        exact call_int1 pins s σ H _ us Q I r (.inr ⟨_, rfl, g⟩)
    case str =>
      cases p <;> simp only [bltF, reduceCtorEq] at hf
      split at hf
      · rename_i hh
        cases hf
        obtain rfl := d1.int
        exact call_str_int pins s σ H _ us Q I r ⟨_, rfl, hh, g⟩
      · cases hf
    case bool =>
      cases p <;> simp only [bltF, reduceCtorEq] at hf
      cases hf
      obtain rfl := d1.bl
      exact call_bool1 pins s σ H _ us Q I r (.inr ⟨_, rfl, g⟩)
    case repr =>
      simp only [bltF] at hf
      split at hf
      · rename_i hh
        cases hf
        obtain ⟨h1, h2, h3, h4⟩ := okRepr_of hh
        exact call_reprD hu hg pins s σ H _ us Q I r ⟨v, dat p, rfl, d1.dp h1, isDat_can p h1, h2, h3, h4, g⟩
      · cases hf
    case tuple =>
      cases p <;> simp only [bltF, reduceCtorEq] at hf
      rename_i t xs
      cases hf
      cases t with
      | false =>
        obtain ⟨a, us', rfl, hs, dd⟩ := d1.list
        exact call_tuple_of pins s σ H _ us Q I r ⟨a, us', rfl, .inl ⟨SqL.of hs, fun l hl => g.1 l us' hl dd⟩⟩
      | true =>
        obtain ⟨a, us', rfl, hs, dd⟩ := d1.tup
        exact call_tuple_of pins s σ H _ us Q I r ⟨a, us', rfl, .inr ⟨hs, g.2 a us' hs dd⟩⟩
    case list =>
      cases p <;> simp only [bltF, reduceCtorEq] at hf
      rename_i t xs
      cases hf
      obtain ⟨a, us', rfl, hs, dd⟩ := d1.seqv
      exact call_list_of pins s σ H _ us Q I r ⟨a, us', rfl, hs, fun l hl => g l us' hl dd⟩
    case sorted => simp only [bltF, reduceCtorEq] at hf
    case abs =>
      cases p <;> simp only [bltF, reduceCtorEq] at hf
      cases hf
      obtain rfl := d1.int
      exact call_abs pins s σ H _ us Q I r ⟨_, rfl, g⟩
    case max => cases p <;> simp only [bltF, reduceCtorEq] at hf
    case min => cases p <;> simp only [bltF, reduceCtorEq] at hf
  rename_i v2 p2 vs2 ps2
  rcases ds with _ | ⟨d3, ds⟩
  · cases b <;> simp only [bltF, reduceCtorEq] at hf
    case max =>
      cases p <;> cases p2 <;> simp only [bltF, reduceCtorEq] at hf
      cases hf
      obtain rfl := d1.int
      obtain rfl := d2.int
      exact call_max2 hc pins s σ H _ us Q I r ⟨_, _, rfl, g⟩
    case min =>
      cases p <;> cases p2 <;> simp only [bltF, reduceCtorEq] at hf
      cases hf
      obtain rfl := d1.int
      obtain rfl := d2.int
      exact call_min2 hc pins s σ H _ us Q I r ⟨_, _, rfl, g⟩
  · cases b <;> simp only [bltF, reduceCtorEq] at hf
    all_goals (cases p <;> cases p2 <;> simp only [bltF, reduceCtorEq] at hf)
end
end Rm
set_option Elab.async false
set_option linter.all false
set_option maxHeartbeats 4000000
/-! Where one stands; calls of the text's own; which term stands for which expression. -/
namespace Rm
open PySem PySem.Spec L2

/-- what the text has at its top: defs (name, how many parameters by place, names of the others), constants, classes of errors -/
structure Gtab where
  fs : List (Str × Nat × List Str)
  gl : List (Str × PV)
  cl : List Str
  rs : List Nat := []
structure Ctx where
  T : Gtab
  N : List Str
  sc : Scope
  fn : Str → Bool

/-- a def keeps its promise, called with np values by place and the others by name -/
def CallOk (P : Program) (w : World) (K : PySem.W.Frag) (mg : Str → Option Value) (base : Heap) (n np : Nat) (ks : List Str) (f : Addr) (sp : Sp) : Prop :=
  ∀ (A : Around) (outer : List Env) (s : Shared) (H : Hp) (us ws : List Value) (vs : List V) (Q : VK) (E : XK), Room n A → A.guards = some [] → Env0 P w K mg base A outer s H → us.length = np → ws.length = ks.length →
    Vals vs (us ++ ws) → sp vs H Q E → codeAny (model P w) A (.call (.ref f) ⟨us, ks.zip ws⟩) (CR (L2.CX P w) outer P w H s Q E) s
/-- the promise: what the small language's run says -/
def spF (K : PySem.W.Frag) (C : Nat → Addr) (r : List PV → Sto → Out PV) : Sp := fun vs H Q E => ∃ W st ps, RelS K C W H st ∧ (W.o = fun _ => none) ∧ Dens K C W H vs ps ∧
  Post (r ps st) (fun p st' => ∀ W' H' v, Ext W H W' H' → (W'.o = fun _ => none) → RelS K C W' H' st' → Den K C W' H' v p → Q v H')
    (fun c p st' => ∀ W' H' cls d, Ext W H W' H' → (W'.o = fun _ => none) → RelS K C W' H' st' → ExcV C c p cls d → E cls d H')

def bltNames : List Str := ["len", "sum", "all", "any", "int", "str", "bool", "repr", "tuple", "list", "sorted", "abs", "max", "min", "range", "enumerate", "zip", "isinstance", "dict", "set", "reversed"]
/-- what the class of an error is, to isinstance and to except -/
structure ClsOk (K : PySem.W.Frag) (C : Nat → Addr) (c : Nat) (anc : List Nat) (m : Nat) : Prop where
  ex : ExcC K (C c)
  no : ∀ T ∈ (["NoneType", "bool", "int", "str", "list", "tuple"] : List String), PySem.W.kitOne K (.type T) (.ref (C c)) = some false
  sub : ∀ d, d < m → PySem.W.kitOne K (.ref (C c)) (.ref (C d)) = some (anc.contains d)
  exm : ∀ d, d < m → PySem.W.exmOne K (.ref (C c)) (.ref (C d)) = some (anc.contains d)
  noB : ∀ T ∈ (["bool", "int", "str", "list", "tuple"] : List String), PySem.W.kitOne K (.ref (C c)) (.type T) = some false
/-- a class whose errors are made with texts -/
structure RaiseOk (K : PySem.W.Frag) (D : Addr) : Prop where
  ex : ∃ B newId initId bmB, ExcBaseFacts B newId initId bmB ∧ PySem.W.excIn K D bmB newId = true
  kp : PySem.W.keepIn K (.ref D) = true
  sb : PySem.W.subIn K (.ref D) (.type "BaseException") = some true
  ty : PySem.W.typeIn K (.ref D) = some (.type "type")
structure Glob (T : Gtab) (C : Nat → Addr) (S : Sig) (n : Nat) (P : Program) (w : World) (K : PySem.W.Frag) (mg : Str → Option Value) (base : Heap) : Prop where
  fns : ∀ (j : Nat) (nm : Str) (np : Nat) (ks : List Str), T.fs[j]? = some (nm, np, ks) → ∃ f, mg nm = some (.ref f) ∧ PySem.W.keepIn K (.ref f) = true ∧ CallOk P w K mg base n np ks f (spF K C (S.call j))
  blt : ∀ x ∈ bltNames, mg x = none
  gls : ∀ (k : Nat) (nm : Str) (p : PV), T.gl[k]? = some (nm, p) → S.glb[k]? = some p ∧ ∃ u v, mg nm = some u ∧ RelV v u ∧ ∀ W H, Den K C W H v p
  cls : ∀ (c : Nat) (nm : Str), T.cl[c]? = some nm → mg nm = some (.ref (C c)) ∧ ∃ l, S.anc[c]? = some l ∧ ClsOk K C c l T.cl.length
  ancl : S.anc.length = T.cl.length
  rai : ∀ c, c ∈ T.rs → c < T.cl.length ∧ RaiseOk K (C c)

structure Fit (c : Ctx) (C : Nat → Addr) (S : Sig) (n : Nat) (Wx : WX) (X : Cx) : Prop where
  N : X.N = c.N
  sc : X.env.scope = c.sc
  fn : ∀ x, c.fn x = true → X.fn x = true
  calm : X.calm = true
  nd : c.N.Nodup
  tk : Takes X Wx
  gd : X.A.guards = some []
  rm : Room n X.A
  G : Glob c.T C S n X.prog X.w X.K X.mg X.base

/-! ### names -/
def isVis (sc : Scope) (x : Str) : Bool := match sc.names.lookup x with
  | some .local | some .cell | some .free => true
  | _ => false
def isGl (sc : Scope) (x : Str) : Bool := match sc.names.lookup x with
  | some .globalImplicit => true
  | _ => false
def plainN (x : Str) : Bool := !(x == ("__debug__" : Str)) && !(x == ("__classdict__" : Str)) && !(x == ("__name__" : Str))
theorem isVis_ok {sc : Scope} {x : Str} (h : isVis sc x = true) : Vis sc x := by
  unfold isVis at h
  split at h
  · exact .inl (by assumption)
  · exact .inr (.inl (by assumption))
  · exact .inr (.inr (by assumption))
  · cases h
theorem plainN_ok {x : Str} (h : plainN x = true) : (x == ("__debug__" : Str)) = false ∧ (x == ("__classdict__" : Str)) = false ∧ x ≠ "__name__" := by
  unfold plainN at h
  simp only [Bool.and_eq_true, Bool.not_eq_true'] at h
  exact ⟨h.1.1, h.1.2, by simpa using h.2⟩
theorem isGl_ok {X : Cx} {c : Ctx} {x : Str} (e : X.env.scope = c.sc) (h : isGl c.sc x = true) : Gl X x := by
  unfold isGl at h
  show X.env.scope.names.lookup x = some .globalImplicit
  rw [e]
  split at h
  · assumption
  · cases h

/-! ### plain argument lists -/
def noStar : Expr → Bool
  | .Starred _ _ => false
  | _ => true
theorem star_cons {e : Expr} {es : List Expr} {env : Env} (h : noStar e = true) : starEach (e :: es) env = (false, eval e env) :: starEach es env := by
  cases e <;> first | rfl | cases h
theorem star_any {pos : Pos} {env : Env} : ∀ {es : List Expr}, es.all noStar = true → (backTo pos (starEach es env)).any (·.1) = false
  | [], _ => rfl
  | e :: es, h => by
    simp only [List.all_cons, Bool.and_eq_true] at h
    rw [star_cons h.1]
    show (false || (backTo pos (starEach es env)).any (·.1)) = false
    rw [star_any h.2]
    rfl
def kwNames : List Keyword → List Str
  | [] => []
  | k :: ks => (k.arg.getD "") :: kwNames ks
theorem kw_names {pos : Pos} {env : Env} : ∀ {ks : List Keyword}, (ks.all fun k => k.arg.isSome) = true → (backToKw pos (keywordEach ks env)).all (·.1.isSome) = true ∧ (backToKw pos (keywordEach ks env)).filterMap (·.1) = kwNames ks ∧ (backToKw pos (keywordEach ks env)).any (·.1.isNone) = false
  | [], _ => ⟨rfl, rfl, rfl⟩
  | ⟨some nm, e, p⟩ :: ks, h => by
    simp only [List.all_cons, Bool.and_eq_true] at h
    obtain ⟨h1, h2, h3⟩ := kw_names (pos := pos) (env := env) h.2
    refine ⟨?_, ?_, ?_⟩
    · show (true && (backToKw pos (keywordEach ks env)).all (·.1.isSome)) = true
      rw [h1]
      rfl
    · show nm :: (backToKw pos (keywordEach ks env)).filterMap (·.1) = nm :: kwNames ks
      rw [h2]
    · show (false || (backToKw pos (keywordEach ks env)).any (·.1.isNone)) = false
      rw [h3]
      rfl
  | ⟨none, e, p⟩ :: ks, h => by
    simp only [List.all_cons, Bool.and_eq_true] at h
    cases h.1

section
variable {K : PySem.W.Frag} {C : Nat → Addr} {Wx : WX} {S : Sig} {X : Cx} {n : Nat}
/-! ### a call -/
theorem Den.withO {W : Wd} {o : Nat → Option Addr} {H : Hp} {v : V} {p : PV} (d : Den K C W H v p) : Den K C (W.withO o) H v p := d.mono (W := W) (W' := W.withO o) (fun _ h => h) (fun _ _ h => h) fun _ _ h _ => h
theorem Dens.withO {W : Wd} {o : Nat → Option Addr} {H : Hp} {v : List V} {p : List PV} (d : Dens K C W H v p) : Dens K C (W.withO o) H v p := d.mono (W := W) (W' := W.withO o) (fun _ h => h) (fun _ _ h => h) fun _ _ h _ => h
/-- fewer of the slots' own lists -/
theorem RelS.less {W : Wd} {o : Nat → Option Addr} {H : Hp} {st : Sto} (s : RelS K C W H st) (h : ∀ i a, o i = some a → W.o i = some a) : RelS K C (W.withO o) H st :=
  ⟨⟨s.sep.rl, fun i a e => s.sep.ol i a (h i a e), s.sep.Fs, s.sep.Fr, fun a i f e => s.sep.Fo a i f (h i a e), fun n i a e1 e2 => s.sep.ro n i a e1 (h i a e2), s.sep.rr, fun i j a e1 e2 => s.sep.oo i j a (h i a e1) (h j a e2)⟩, s.sz, fun n xs e => by
    obtain ⟨a, us, h1, h2, h3⟩ := s.str n xs e
    exact ⟨a, us, h1, h2, h3.withO⟩, s.rn⟩
theorem RelS.bare {W : Wd} {H : Hp} {st : Sto} (s : RelS K C W H st) : RelS K C (W.withO fun _ => none) H st := s.less fun _ _ e => (nomatch e)
theorem Ext.back {W W1 : Wd} {o : Nat → Option Addr} {H H1 : Hp} (x : Ext (W.withO o) H W1 H1) : Ext W H (W1.withO W.o) H1 := ⟨x.kp, x.th, x.F, x.Fn, x.r, x.rn⟩
theorem RelS.back {W W1 : Wd} {o : Nat → Option Addr} {H H1 : Hp} {st : Sto} (S : Sep W H) (x : Ext (W.withO o) H W1 H1) (s : RelS K C W1 H1 st) : RelS K C (W1.withO W.o) H1 st := by
  refine ⟨⟨s.sep.rl, fun i a e => ?_, s.sep.Fs, s.sep.Fr, fun a i f e => ?_, fun m i a e1 e2 => ?_, s.sep.rr, S.oo⟩, s.sz, fun m xs e => ?_, s.rn⟩
  · obtain ⟨us, h⟩ := S.ol i a e
    exact ⟨us, x.kp a _ h fun m z => S.ro m i a z e⟩
  · obtain ⟨us, h⟩ := S.ol i a e
    rcases x.Fn a f with z | z
    · exact S.Fo a i z e
    · rw [h] at z
      cases z
  · obtain ⟨us, h⟩ := S.ol i a e2
    rcases x.rn m a e1 with z | z
    · exact S.ro m i a z e2
    · rw [h] at z
      cases z
  · obtain ⟨a, us, h1, h2, h3⟩ := s.str m xs e
    exact ⟨a, us, h1, h2, h3.withO⟩
theorem Vals.append {xs ys : List V} {us ws : List Value} (a : Vals xs us) (b : Vals ys ws) : Vals (xs ++ ys) (us ++ ws) := L2.Vals.append a b

/-- the called def runs -/
theorem run_callG {np : Nat} {ks : List Str} {f : Addr} {r : List PV → Sto → Out PV} {pins : List (Addr × Obj)} {σ : St} {H : Hp} {s : Shared} {Q : VK} {us ws : List Value} {vs : List V} {W : Wd} {fr : Frm} {st : Sto} {ps : List PV}
    (F : CallOk X.prog X.w X.K X.mg X.base n np ks f (spF X.K C r)) (hr : Room n X.A) (hg : X.A.guards = some []) (tk : Takes X Wx) (I : Inv X pins σ H s) (h1 : us.length = np) (h2 : ws.length = ks.length) (rv : Vals vs (us ++ ws))
    (R : Rel X.K C W H σ fr st) (d : Dens X.K C W H vs ps) (h : Post (r ps st) (fun p st' => EndOk X.K C W H σ fr st' p Q) (EndX X.K C Wx W H σ fr)) :
    wpAny (model X.prog X.w) X.A (call (.ref f) us (ks.zip ws)) (EP X pins σ Q) X.xe s := by
  refine wpAny_call (codeAny_mono (F X.A X.stack s H us ws vs Q (fun cls d H' => Wx cls d σ H') hr hg I.env0 h1 h2 rv ?_) fun r s' hq => ?_)
  · refine ⟨(W.withO fun _ => none), st, ps, R.s.bare, rfl, d.withO, h.imp (fun p st' h W' H' v x o S D => ?_) fun c p st' h W' H' cls d x o S e => ?_⟩
    · have x2 := x.back
      exact h (W'.withO W.o) H' v x2 rfl (R.ext x2 rfl (S.back R.s.sep x)) (.inl D.withO)
    · have x2 := x.back
      exact h (W'.withO W.o) H' cls d x2 rfl (R.ext x2 rfl (S.back R.s.sep x)) e
  · cases r with
    | error e => exact tk e s' (XE.of_call I (fun cls d H' h => h) hq)
    | ok fl =>
      cases fl with
      | ret u => exact I.after hq
      | next => exact False.elim hq
      | brk => exact False.elim hq
      | cont => exact False.elim hq
theorem Vals.len {xs : List V} {us : List Value} (r : Vals xs us) : xs.length = us.length := L2.Vals.length r

theorem pe_callG {x : Str} {p pos : Pos} {args : List Expr} {kws : List Keyword} {j np : Nat} {f : Addr} {l k : E} (hr : Room n X.A) (hg : X.A.guards = some []) (tk : Takes X Wx) (gl : Gl X x) (hdb : (x == ("__debug__" : Str)) = false) (hm : X.mg x = some (.ref f)) (hk : PySem.W.keepIn X.K (.ref f) = true)
    (F : CallOk X.prog X.w X.K X.mg X.base n np (kwNames kws) f (spF X.K C (S.call j))) (ha : PA X args (tL X.K C Wx (evL S l))) (hw : PK X kws (tL X.K C Wx (evL S k))) (ns : args.all noStar = true) (kn : (kws.all fun k => k.arg.isSome) = true) (hnp : args.length = np)
    (hlen : ∀ fr st xs st', evL S l fr st = .ok xs st' → xs.length = args.length) (hlk : ∀ fr st xs st', evL S k fr st = .ok xs st' → xs.length = kws.length) (h0 : args = [] → l = .nil ∧ kws = []) (h1 : kws = [] → k = .nil) : PE X (.Call (.Name x p) args kws pos) (tE X.K C Wx (evE S (.call j l k))) := by
  have step : ∀ {σ : St} {H : Hp} {Q : VK}, tE X.K C Wx (evE S (.call j l k)) σ H Q → tL X.K C Wx (evL S l) σ H fun vs H1 => vs.length = args.length ∧ tL X.K C Wx (evL S k) σ H1 fun zs H2 => zs.length = kws.length ∧
      ∃ W fr st ps, Rel X.K C W H2 σ fr st ∧ Dens X.K C W H2 (vs ++ zs) ps ∧ Post (S.call j ps st) (fun p st' => EndOk X.K C W H2 σ fr st' p Q) (EndX X.K C Wx W H2 σ fr) := by
    intro σ H Q h
    obtain ⟨W, fr, st, R, h⟩ := h
    simp only [evE] at h
    refine ⟨W, fr, st, R, ?_⟩
    have h' := h.bind
    cases e1 : evL S l fr st with
    | bad => rw [e1] at h'; exact h'.elim
    | exc c p st1 => rw [e1] at h'; exact h'
    | ok xs st1 =>
      rw [e1] at h'
      intro W1 H1 vs x1 o1 R1 D1
      refine ⟨?_, ?_⟩
      · have : vs.length = xs.length := Paired.length D1
        rw [this, hlen fr st xs st1 e1]
      refine ⟨W1, fr, st1, R1, ?_⟩
      have h2 := Post.bind h'
      cases e2 : evL S k fr st1 with
      | bad => rw [e2] at h2; exact h2.elim
      | exc c p st2 => rw [e2] at h2; exact EndX.shift h2 x1 o1
      | ok ys st2 =>
        rw [e2] at h2
        intro W2 H2 zs x2 o2 R2 D2
        refine ⟨?_, ?_⟩
        · have : zs.length = ys.length := Paired.length D2
          rw [this, hlk fr st1 ys st2 e2]
        have h3 : Post (if keepAll (xs ++ ys) = true then S.call j (xs ++ ys) st2 else .bad) (fun p st' => EndOk X.K C W H σ fr st' p Q) (EndX X.K C Wx W H σ fr) := h2
        split at h3
        · rename_i hkp
          have hxy : keepAll xs = true ∧ keepAll ys = true := by
            unfold keepAll at hkp ⊢
            rw [List.all_append, Bool.and_eq_true] at hkp
            exact hkp
          refine ⟨W2, fr, st2, xs ++ ys, R2, ?_, h3.imp (fun p st' z => EndOk.shift z (x1.trans x2) (o2.trans o1)) fun c p st' z => EndX.shift z (x1.trans x2) (o2.trans o1)⟩
          exact ((D1.ext R1.s.sep x2 o2).dens hxy.1).app (D2.dens hxy.2)
        · exact h3.elim
  refine ⟨fun pins s σ H Q I h => ?_⟩
  refine wpAny_Call_Name_kw (ld_glob I gl hm ?_ hdb)
  obtain ⟨k1, k2, k3⟩ := kw_names (pos := pos) (env := X.env) kn
  have hst := step h
  have fin : ∀ {us ws : List Value} {vs zs : List V} {H2 : Hp} {s2 : Shared}, Inv X pins σ H2 s2 → Vals vs us → Vals zs ws → vs.length = args.length → zs.length = kws.length →
      (∃ W fr st ps, Rel X.K C W H2 σ fr st ∧ Dens X.K C W H2 (vs ++ zs) ps ∧ Post (S.call j ps st) (fun p st' => EndOk X.K C W H2 σ fr st' p Q) (EndX X.K C Wx W H2 σ fr)) →
      wpAny (model X.prog X.w) X.A (call (.ref f) us ((kwNames kws).zip ws)) (EP X pins σ Q) X.xe s2 := by
    intro us ws vs zs H2 s2 I2 r1 r2 l1 l2 ⟨W, fr, st, ps, R, D, hp⟩
    have kl : (kwNames kws).length = kws.length := by
      clear k1 k2 k3 kn hw F hst step hlk h l2 h0 h1
      induction kws with
      | nil => rfl
      | cons a b ih => exact congrArg Nat.succ ih
    exact run_callG F hr hg tk I2 (by rw [← r1.length, l1, hnp]) (by rw [← r2.length, l2, kl]) (r1.append r2) R D hp
  have noK : ∀ {σ : St} {H : Hp} {R : List V → Hp → Prop}, kws = [] → tL X.K C Wx (evL S k) σ H R → ∃ W fr st, Rel X.K C W H σ fr st ∧ EndL X.K C W H σ fr st [] R := fun e h => by
    obtain ⟨W, fr, st, R, h⟩ := h
    rw [h1 e] at h
    simp only [evL] at h
    exact ⟨W, fr, st, R, h⟩
  cases args with
  | nil =>
    obtain ⟨rfl, rfl⟩ := h0 rfl
    refine PySem.W.callWith_K0 I.kIn hk ?_
    obtain ⟨W, fr, st, R, hst⟩ := hst
    simp only [evL] at hst
    obtain ⟨_, hst⟩ := (show EndL X.K C W H σ fr st [] _ from hst) W H [] (.refl _ _) rfl R .nil
    obtain ⟨W, fr, st, R, hst⟩ := noK rfl hst
    obtain ⟨_, hst⟩ := hst W H [] (.refl _ _) rfl R .nil
    exact fin (us := []) (ws := []) I .nil .nil rfl rfl hst
  | cons e es =>
    have nse : noStar e = true ∧ es.all noStar = true := by simpa using ns
    by_cases hkw : kws = []
    · subst hkw
      refine PySem.W.callWith_K (h₀ := X.base) I.ok.mod.kin hk (thn (ha.run pos pins s σ H _ I hst) fun us s1 ⟨vs, H1, I1, r, l1, q⟩ => ⟨I1.kIn, ?_⟩) (star_cons nse.1) (star_any nse.2)
      obtain ⟨W, fr, st, R, q⟩ := noK rfl q
      obtain ⟨_, q⟩ := q W H1 [] (.refl _ _) rfl R .nil
      exact fin (ws := []) I1 r .nil l1 rfl q
    · refine PySem.W.callWith_KW (h₀ := X.base) I.ok.mod.kin hk k1 (thn (ha.run pos pins s σ H _ I hst) fun us s1 ⟨vs, H1, I1, r, l1, q⟩ => ?_) (by rw [star_any ns, k3]; rfl) (star_cons nse.1)
      refine thn (hw.run pos pins s1 σ H1 _ I1 q) fun ws s2 ⟨zs, H2, I2, rz, l2, q2⟩ => ⟨I2.kIn, ?_⟩
      rw [k2]
      exact fin I2 r rz l1 l2 q2
end
end Rm
set_option Elab.async false
set_option linter.all false
set_option maxHeartbeats 4000000
/-! Targets, what is walked, comprehensions. -/
namespace Rm
open PySem PySem.Spec L2

section
variable {K : PySem.W.Frag} {C : Nat → Addr} {Wx : WX} {S : Sig} {X : Cx} {n : Nat}

/-- a step between statements: the slots' own lists may have been changed, made, let go -/
structure ExtS (W : Wd) (H : Hp) (W' : Wd) (H' : Hp) : Prop where
  kp : ∀ b u, H b = some u → (∀ n, W.r n ≠ some b) → (∀ i, W.o i ≠ some b) → H' b = some u
  th : ∀ b u, H b = some u → ∃ u', H' b = some u'
  F : ∀ a, W.F a → W'.F a
  Fn : ∀ a, W'.F a → W.F a ∨ (∃ i, W.o i = some a) ∨ H a = none
  r : ∀ n a, W.r n = some a → W'.r n = some a
  rn : ∀ n a, W'.r n = some a → W.r n = some a ∨ (∃ i, W.o i = some a) ∨ H a = none
  on : ∀ i a, W'.o i = some a → (∃ j, W.o j = some a) ∨ H a = none
theorem Ext.toS {W W' : Wd} {H H' : Hp} (x : Ext W H W' H') (ho : W'.o = W.o) : ExtS W H W' H' :=
  ⟨fun b u h n _ => x.kp b u h n, x.th, x.F, fun a h => (x.Fn a h).elim .inl fun z => .inr (.inr z), x.r, fun m a h => (x.rn m a h).elim .inl fun z => .inr (.inr z), fun i a h => .inl ⟨i, by rw [← ho]; exact h⟩⟩
theorem ExtS.refl (W : Wd) (H : Hp) : ExtS W H W H := (Ext.refl W H).toS rfl
theorem ExtS.free {W W' : Wd} {H H' : Hp} (X : ExtS W H W' H') {a : Addr} (h : H' a = none) : H a = none := by
  cases q : H a with
  | none => rfl
  | some u =>
    obtain ⟨u', e⟩ := X.th a u q
    rw [h] at e
    cases e
theorem ExtS.trans {W W' W2 : Wd} {H H' H2 : Hp} (x : ExtS W H W' H') (y : ExtS W' H' W2 H2) : ExtS W H W2 H2 where
  kp := fun b u h n o => y.kp b u (x.kp b u h n o) (fun m e => by
    rcases x.rn m b e with z | ⟨i, z⟩ | z
    · exact n m z
    · exact o i z
    · rw [h] at z
      cases z) fun m e => by
    rcases x.on m b e with ⟨i, z⟩ | z
    · exact o i z
    · rw [h] at z
      cases z
  th := fun b u h => by
    obtain ⟨u1, h1⟩ := x.th b u h
    exact y.th b u1 h1
  F := fun a h => y.F a (x.F a h)
  Fn := fun a h => by
    rcases y.Fn a h with z | ⟨i, z⟩ | z
    · exact x.Fn a z
    · rcases x.on i a z with z | z
      · exact .inr (.inl z)
      · exact .inr (.inr z)
    · exact .inr (.inr (x.free z))
  r := fun m a h => y.r m a (x.r m a h)
  rn := fun m a h => by
    rcases y.rn m a h with z | ⟨i, z⟩ | z
    · exact x.rn m a z
    · rcases x.on i a z with z | z
      · exact .inr (.inl z)
      · exact .inr (.inr z)
    · exact .inr (.inr (x.free z))
  on := fun i a h => by
    rcases y.on i a h with ⟨j, z⟩ | z
    · exact x.on j a z
    · exact .inr (x.free z)
theorem kept_of {W W' : Wd} {H H' : Hp} (S : Sep W H) (x : ExtS W H W' H') : ∀ a u, H a = some u → (W.F a ∨ ∀ us, u ≠ .lst us) → H' a = some u := fun a u e q => x.kp a u e (fun n z => by
    obtain ⟨us, e'⟩ := S.rl n a z
    rcases q with q | q
    · exact S.Fr a n q z
    · rw [e] at e'
      exact q us (Option.some.inj e')) fun n z => by
    obtain ⟨us, e'⟩ := S.ol n a z
    rcases q with q | q
    · exact S.Fo a n q z
    · rw [e] at e'
      exact q us (Option.some.inj e')
theorem Den.extS {W W' : Wd} {H H' : Hp} {v : V} {p : PV} (S : Sep W H) (x : ExtS W H W' H') (d : Den K C W H v p) : Den K C W' H' v p := d.mono x.F x.r (kept_of S x)
theorem Dens.extS {W W' : Wd} {H H' : Hp} {v : List V} {p : List PV} (S : Sep W H) (x : ExtS W H W' H') (d : Dens K C W H v p) : Dens K C W' H' v p := d.mono x.F x.r (kept_of S x)

/-! ### slots -/
structure Slots (K : PySem.W.Frag) (C : Nat → Addr) (W : Wd) (H : Hp) (σ : St) (fr : Frm) : Prop where
  len : fr.length = σ.length
  slt : ∀ (i : Nat) (p : PV), fr[i]? = some (some (.val p)) → ∃ v, σ[i]? = some (some v) ∧ Den K C W H v p
  own : ∀ (i : Nat) (xs : List PV), fr[i]? = some (some (.own xs)) → ∃ a us, σ[i]? = some (some (.ref a)) ∧ W.o i = some a ∧ H a = some (.lst us) ∧ Dens K C W H us xs
theorem Rel.slots {W : Wd} {H : Hp} {σ : St} {fr : Frm} {st : Sto} (R : Rel K C W H σ fr st) : Slots K C W H σ fr := ⟨R.len, R.slt, R.own⟩
/-- the own lists that the frame speaks of -/
def onlyO (W : Wd) (fr : Frm) : Nat → Option Addr := fun i => match fr[i]? with
  | some (some (.own _)) => W.o i
  | _ => none
theorem onlyO_le {W : Wd} {fr : Frm} {i : Nat} {a : Addr} (h : onlyO W fr i = some a) : W.o i = some a ∧ ∃ xs, fr[i]? = some (some (.own xs)) := by
  unfold onlyO at h
  split at h
  · exact ⟨h, _, by assumption⟩
  · cases h
theorem Slots.rel {W : Wd} {H : Hp} {σ : St} {fr : Frm} {st : Sto} (s : Slots K C W H σ fr) (S : RelS K C W H st) : Rel K C (W.withO (onlyO W fr)) H σ fr st where
  s := S.less fun _ _ e => (onlyO_le e).1
  len := s.len
  slt := fun i p e => by
    obtain ⟨v, h1, h2⟩ := s.slt i p e
    exact ⟨v, h1, h2.withO⟩
  own := fun i xs e => by
    obtain ⟨a, us, h1, h2, h3, h4⟩ := s.own i xs e
    refine ⟨a, us, h1, ?_, h3, h4.withO⟩
    show onlyO W fr i = some a
    unfold onlyO
    rw [e]
    exact h2
  on := fun i a e => (onlyO_le e).2
theorem Slots.ext {W W' : Wd} {H H' : Hp} {σ : St} {fr : Frm} (s : Slots K C W H σ fr) (S : Sep W H) (x : Ext W H W' H') (ho : W'.o = W.o) : Slots K C W' H' σ fr where
  len := s.len
  slt := fun i p h => by
    obtain ⟨v, h1, h2⟩ := s.slt i p h
    exact ⟨v, h1, h2.ext S x⟩
  own := fun i xs h => by
    obtain ⟨a, us, h1, h2, h3, h4⟩ := s.own i xs h
    exact ⟨a, us, h1, by rw [ho]; exact h2, x.kp a _ h3 fun n z => S.ro n i a z h2, h4.ext S x⟩
theorem Slots.set {W : Wd} {H : Hp} {σ : St} {fr : Frm} {v : V} {p : PV} {i : Nat} (s : Slots K C W H σ fr) (d : Den K C W H v p) (hi : i < fr.length) : Slots K C W H (σ.set i (some v)) (fr.set i (some (.val p))) where
  len := by rw [List.length_set, List.length_set]; exact s.len
  slt := fun j q h => by
    by_cases e : i = j
    · subst e
      rw [List.getElem?_set_self hi] at h
      cases h
      exact ⟨v, List.getElem?_set_self (by rw [← s.len]; exact hi), d⟩
    · rw [List.getElem?_set_ne e] at h
      rw [List.getElem?_set_ne e]
      exact s.slt j q h
  own := fun j xs h => by
    by_cases e : i = j
    · subst e
      rw [List.getElem?_set_self hi] at h
      cases h
    · rw [List.getElem?_set_ne e] at h
      rw [List.getElem?_set_ne e]
      exact s.own j xs h
theorem Slots.drop {W : Wd} {H : Hp} {σ : St} {fr : Frm} {i : Nat} (s : Slots K C W H σ fr) : Slots K C W H (σ.set i none) (fr.set i none) where
  len := by rw [List.length_set, List.length_set]; exact s.len
  slt := fun j q h => by
    by_cases e : i = j
    · subst e
      by_cases hi : i < fr.length
      · rw [List.getElem?_set_self hi] at h
        cases h
      · rw [List.getElem?_eq_none (by rw [List.length_set]; omega)] at h
        cases h
    · rw [List.getElem?_set_ne e] at h
      rw [List.getElem?_set_ne e]
      exact s.slt j q h
  own := fun j xs h => by
    by_cases e : i = j
    · subst e
      by_cases hi : i < fr.length
      · rw [List.getElem?_set_self hi] at h
        cases h
      · rw [List.getElem?_eq_none (by rw [List.length_set]; omega)] at h
        cases h
    · rw [List.getElem?_set_ne e] at h
      rw [List.getElem?_set_ne e]
      exact s.own j xs h
theorem Slots.wipe {W : Wd} {H : Hp} {σ : St} {fr : Frm} (s : Slots K C W H σ fr) : ∀ vs : List Nat, Slots K C W H (wipe σ vs) (wipeF fr vs)
  | [] => s
  | v :: vs => (Slots.wipe s vs).drop

/-! ### targets -/
def lenT : T → Nat
  | .cons _ l => lenT l + 1
  | _ => 0
mutual
def gOf (K : PySem.W.Frag) : T → TG
  | .nm i => gName i
  | .tp l => gTup K (lenT l) (gsOf K l)
  | _ => fun _ _ _ _ => False
def gsOf (K : PySem.W.Frag) : T → TGs
  | .nil => gNil
  | .cons a l => gCons (gOf K a) (gsOf K l)
  | _ => fun _ _ _ _ => False
end
/-- the slots that a target stores -/
def slotsT : T → List Nat
  | .nm i => [i]
  | .tp l => slotsT l
  | .nil => []
  | .cons a l => slotsT a ++ slotsT l
def mT (c : Ctx) : Expr → T → Bool
  | .Name x _, .nm i => decide (c.N[i]? = some x) && ((match c.sc.names.lookup x with | some .local => true | _ => false) || (c.fn x && (match c.sc.names.lookup x with | some .cell => true | _ => false)))
  | .Tuple es _ _, .tp l => mTs c es l
  | _, _ => false
where mTs (c : Ctx) : List Expr → T → Bool
  | [], .nil => true
  | e :: es, .cons a l => noStar e && mT c e a && mTs c es l
  | _, _ => false
theorem asgEach_cons {e : Expr} {es : List Expr} {env : Env} (h : noStar e = true) : assignEach (e :: es) env = (false, assign e env) :: assignEach es env := by
  cases e <;> first | rfl | cases h
theorem mTs_plain {c : Ctx} {env : Env} : ∀ {es : List Expr} {l : T}, mT.mTs c es l = true → (assignEach es env).length = lenT l ∧ (assignEach es env).findIdx? (·.1) = none
  | [], .nil, _ => ⟨rfl, rfl⟩
  | e :: es, .cons a l, h => by
    simp only [mT.mTs, Bool.and_eq_true] at h
    obtain ⟨⟨h1, h2⟩, h3⟩ := h
    obtain ⟨q1, q2⟩ := mTs_plain (env := env) h3
    rw [asgEach_cons h1]
    refine ⟨?_, ?_⟩
    · show (assignEach es env).length + 1 = lenT l + 1
      rw [q1]
    · rw [List.findIdx?_cons, q2]
      rfl
  | [], .cons _ _, h => by simp [mT.mTs] at h
  | [], .nm _, h => by simp [mT.mTs] at h
  | [], .tp _, h => by simp [mT.mTs] at h
  | _ :: _, .nil, h => by simp [mT.mTs] at h
  | _ :: _, .nm _, h => by simp [mT.mTs] at h
  | _ :: _, .tp _, h => by simp [mT.mTs] at h
mutual
theorem pg_mT {c : Ctx} (hN : X.N = c.N) (hs : X.env.scope = c.sc) (hf : ∀ x, c.fn x = true → X.fn x = true) (hc : X.calm = true) (nd : c.N.Nodup) : ∀ {t : T} {e : Expr}, mT c e t = true → PG X e (gOf X.K t)
  | .nm i, e, h => by
    cases e <;> try (simp only [mT] at h; cases h; done)
    rename_i x pos
    simp only [mT, Bool.and_eq_true, decide_eq_true_eq, Bool.or_eq_true] at h
    obtain ⟨h1, h2⟩ := h
    simp only [gOf]
    have e1 : X.N[i]? = some x := by rw [hN]; exact h1
    rcases h2 with h2 | ⟨h2, h3⟩
    · have l : X.env.scope.names.lookup x = some .local := by
        rw [hs]
        split at h2
        · assumption
        · cases h2
      exact pg_name (by rw [hN]; exact nd) e1 (.inl l) (.inr l)
    · have l : X.env.scope.names.lookup x = some .cell := by
        rw [hs]
        split at h3
        · assumption
        · cases h3
      exact pg_name (by rw [hN]; exact nd) e1 (.inr l) (.inl (hf x h2))
  | .tp l, e, h => by
    cases e <;> try (simp only [mT] at h; cases h; done)
    simp only [mT] at h
    simp only [gOf]
    exact pg_tup hc (pgs_mT hN hs hf hc nd h) (mTs_plain h).1 (mTs_plain h).2
  | .nil, e, h => by cases e <;> (simp only [mT] at h; cases h)
  | .cons _ _, e, h => by cases e <;> (simp only [mT] at h; cases h)
theorem pgs_mT {c : Ctx} (hN : X.N = c.N) (hs : X.env.scope = c.sc) (hf : ∀ x, c.fn x = true → X.fn x = true) (hc : X.calm = true) (nd : c.N.Nodup) : ∀ {t : T} {es : List Expr}, mT.mTs c es t = true → PGs X es (gsOf X.K t)
  | .nil, es, h => by
    cases es
    · simp only [gsOf]; exact pgs_nil
    · simp only [mT.mTs] at h; cases h
  | .cons a l, es, h => by
    cases es
    · simp only [mT.mTs] at h; cases h
    · simp only [mT.mTs, Bool.and_eq_true] at h
      simp only [gsOf]
      exact pgs_cons (pg_mT hN hs hf hc nd h.1.2) (pgs_mT hN hs hf hc nd h.2) (by rw [asgEach_cons h.1.1]; rfl)
  | .nm _, es, h => by cases es <;> (simp only [mT.mTs] at h; cases h)
  | .tp _, es, h => by cases es <;> (simp only [mT.mTs] at h; cases h)
end
mutual
/-- a target that takes a value: the slots then hold what the small language says; other slots stay -/
theorem asg_ok {W : Wd} {H : Hp} : ∀ {t : T} {v : V} {p : PV} {σ : St} {fr fr' : Frm} {Q : St → Hp → Prop}, asg t p fr = some fr' → Den K C W H v p → Slots K C W H σ fr →
    (∀ σ', Slots K C W H σ' fr' → σ'.length = σ.length → (∀ j, j ∉ slotsT t → σ'[j]? = σ[j]?) → Q σ' H) → gOf K t v σ H Q
  | .nm i, v, p, σ, fr, fr', Q, h, d, s, q => by
    simp only [asg] at h
    split at h
    · rename_i hi
      cases h
      simp only [gOf]
      refine q _ (s.set d hi) (by rw [List.length_set]) fun j hj => ?_
      simp only [slotsT, List.mem_singleton] at hj
      exact List.getElem?_set_ne (Ne.symm hj)
    · cases h
  | .tp l, v, p, σ, fr, fr', Q, h, d, s, q => by
    cases p <;> try (simp only [asg] at h; cases h; done)
    rename_i t xs
    cases t <;> try (simp only [asg] at h; cases h; done)
    simp only [asg] at h
    simp only [gOf]
    cases d with
    | tup sq ds => exact ⟨_, _, rfl, sq, by rw [ds.len]; exact asgL_len h, asgL_ok h ds s fun σ' h1 h2 h3 => q σ' h1 h2 (by simpa only [slotsT] using h3)⟩
  | .nil, _, _, _, _, _, _, h, _, _, _ => by simp only [asg] at h; cases h
  | .cons _ _, _, _, _, _, _, _, h, _, _, _ => by simp only [asg] at h; cases h
theorem asgL_ok {W : Wd} {H : Hp} : ∀ {t : T} {vs : List V} {ps : List PV} {σ : St} {fr fr' : Frm} {Q : St → Hp → Prop}, asgL t ps fr = some fr' → Dens K C W H vs ps → Slots K C W H σ fr →
    (∀ σ', Slots K C W H σ' fr' → σ'.length = σ.length → (∀ j, j ∉ slotsT t → σ'[j]? = σ[j]?) → Q σ' H) → gsOf K t vs σ H Q
  | .nil, vs, ps, σ, fr, fr', Q, h, d, s, q => by
    cases ps
    · simp only [asgL] at h
      cases h
      cases d
      simp only [gsOf]
      exact ⟨rfl, q σ s rfl fun _ _ => rfl⟩
    · simp only [asgL] at h; cases h
  | .cons a l, vs, ps, σ, fr, fr', Q, h, d, s, q => by
    cases ps
    · simp only [asgL] at h; cases h
    rename_i x xs
    simp only [asgL, Option.bind_eq_some_iff] at h
    obtain ⟨fr1, h1, h2⟩ := h
    cases d with
    | cons d1 d2 =>
      simp only [gsOf]
      refine ⟨_, _, rfl, asg_ok h1 d1 s fun σ1 s1 l1 k1 => asgL_ok h2 d2 s1 fun σ2 s2 l2 k2 => q σ2 s2 (l2.trans l1) fun j hj => ?_⟩
      simp only [slotsT, List.mem_append, not_or] at hj
      rw [k2 j hj.2, k1 j hj.1]
  | .nm _, _, ps, _, _, _, _, h, _, _, _ => by cases ps <;> (simp only [asgL] at h; cases h)
  | .tp _, _, ps, _, _, _, _, h, _, _, _ => by cases ps <;> (simp only [asgL] at h; cases h)
theorem asgL_len : ∀ {t : T} {ps : List PV} {fr fr' : Frm}, asgL t ps fr = some fr' → ps.length = lenT t
  | .nil, ps, _, _, h => by
    cases ps
    · rfl
    · simp only [asgL] at h; cases h
  | .cons a l, ps, _, _, h => by
    cases ps
    · simp only [asgL] at h; cases h
    · simp only [asgL, Option.bind_eq_some_iff] at h
      obtain ⟨fr1, h1, h2⟩ := h
      simp only [lenT, List.length_cons, asgL_len h2]
  | .nm _, ps, _, _, h => by cases ps <;> (simp only [asgL] at h; cases h)
  | .tp _, ps, _, _, h => by cases ps <;> (simp only [asgL] at h; cases h)
end
theorem wipe_eq {σ σ' : St} : ∀ {vs : List Nat}, σ'.length = σ.length → (∀ j, j ∉ vs → σ'[j]? = σ[j]?) → wipe σ' vs = wipe σ vs := by
  intro vs hl h
  have key : ∀ (vs : List Nat) (τ : St) (j : Nat), (wipe τ vs)[j]? = if j ∈ vs ∧ j < τ.length then some none else τ[j]? := by
    intro vs
    induction vs with
    | nil => intro τ j; simp [wipe]
    | cons v vs ih =>
      intro τ j
      unfold wipe
      rw [List.getElem?_set]
      rw [wipe_length, ih]
      by_cases e : v = j
      · subst e
        simp only [if_true, List.mem_cons, true_or, true_and]
        by_cases hv : v < τ.length
        · simp [hv]
        · simp [hv]
      · rw [if_neg e]
        simp only [List.mem_cons]
        by_cases hj : j ∈ vs
        · simp [hj]
        · simp [hj, Ne.symm e]
  apply List.ext_getElem?
  intro j
  rw [key, key, hl]
  by_cases hj : j ∈ vs
  · by_cases hl2 : j < σ.length
    · rw [if_pos ⟨hj, hl2⟩, if_pos ⟨hj, hl2⟩]
    · rw [if_neg (fun z => hl2 z.2), if_neg (fun z => hl2 z.2)]
      rw [List.getElem?_eq_none (by omega), List.getElem?_eq_none (by omega)]
  · rw [if_neg (fun z => hj z.1), if_neg (fun z => hj z.1), h j hj]

/-! ### what is walked -/
theorem Ext.all {W : Wd} {H H' : Hp} (k : ∀ b u, H b = some u → H' b = some u) : Ext W H W H' := ⟨fun b u e _ => k b u e, fun b u e => ⟨u, k b u e⟩, fun _ h => h, fun _ h => .inl h, fun _ _ h => h, fun _ _ h => .inl h⟩
theorem RelS.all {W : Wd} {H H' : Hp} {st : Sto} (R : RelS K C W H st) (k : ∀ b u, H b = some u → H' b = some u) (s : Sep W H') (z : Sz H') : RelS K C W H' st := ⟨s, z, fun n xs e => by
  obtain ⟨b, us, h1, h2, h3⟩ := R.str n xs e
  exact ⟨b, us, h1, k _ _ h2, h3.ext R.sep (Ext.all k)⟩, R.rn⟩
structure WalkOk (K : PySem.W.Frag) (C : Nat → Addr) (W : Wd) (H : Hp) (J : It) (xs : List PV) : Prop where
  sz : xs.length ≤ sizeLine
  ex : ∃ G Y, Walk J xs.length G Y ∧ (∀ W' H', ExtS W H W' H' → G H') ∧
    ∀ W' H' i x H2, ExtS W H W' H' → Sep W' H' → Sz H' → Y i H' x H2 → ∃ p, xs[i]? = some p ∧ Den K C W' H2 x p ∧ (∀ b u, H' b = some u → H2 b = some u) ∧ Sep W' H2 ∧ Sz H2
theorem WalkOk.list {W : Wd} {H : Hp} {a : Addr} {us : List V} {xs : List PV} (S : Sep W H) (z : Sz H) (f : W.F a) (h : H a = some (.lst us)) (d : Dens K C W H us xs) : WalkOk K C W H (Itl K a) xs := by
  refine ⟨by rw [← d.len]; exact z a us (.inl (.inl h)), _, _, by rw [← d.len]; exact walk_list (K := K) (a := a) (xs := us), fun W' H' x => SqL.of (kept_of S x _ _ h (.inl f)), fun W' H' i x H2 xx S' z' y => ?_⟩
  obtain ⟨rfl, e⟩ := y
  obtain ⟨p, h1, h2⟩ := (d.extS S xx).getV e
  exact ⟨p, h1, h2, fun _ _ e => e, S', z'⟩
theorem WalkOk.tup {W : Wd} {H : Hp} {a : Addr} {us : List V} {xs : List PV} (S : Sep W H) (z : Sz H) (h : SqT K H a us) (hz : us.length ≤ sizeLine) (d : Dens K C W H us xs) : WalkOk K C W H (Itt K a) xs := by
  refine ⟨by rw [← d.len]; exact hz, _, _, by rw [← d.len]; exact walk_tup (K := K) (a := a) (xs := us), fun W' H' x => ?_, fun W' H' i x H2 xx S' z' y => ?_⟩
  · rcases h with (h | ⟨o, h⟩) | h
    · exact .inl (.inl (kept_of S x _ _ h (.inr fun us e => nomatch e)))
    · exact .inl (.inr ⟨o, kept_of S x _ _ h (.inr fun us e => nomatch e)⟩)
    · exact .inr h
  · obtain ⟨rfl, e⟩ := y
    obtain ⟨p, h1, h2⟩ := (d.extS S xx).getV e
    exact ⟨p, h1, h2, fun _ _ e => e, S', z'⟩
theorem WalkOk.range {W : Wd} {H : Hp} {lo : Int} {m : Nat} (hm : m ≤ sizeLine) : WalkOk K C W H (Itr lo m) (rangeF lo m) := by
  have hl : (rangeF lo m).length = m := by simp [rangeF]
  refine ⟨by rw [hl]; exact hm, fun _ => True, fun i H x H' => i < m ∧ H' = H ∧ x = .int (lo + i), ?_, fun _ _ _ => trivial, fun W' H' i x H2 xx S' z' y => ?_⟩
  · rw [hl]
    exact ⟨fun _ _ hi _ => hi, fun _ _ => Nat.le_refl _, fun i _ _ _ hi _ y => ⟨hi, y⟩⟩
  · obtain ⟨hi, rfl, rfl⟩ := y
    exact ⟨.int (lo + i), by simp [rangeF, hi], .int _, fun _ _ e => e, S', z'⟩
theorem Sz.tup2 {H : Hp} {a : Addr} {x y : V} (z : Sz H) (h : H a = none) : Sz (upd H a (.tup [x, y])) := fun b us q => by
  by_cases e : b = a
  · subst e
    have h2 : 2 ≤ sizeLine := by decide
    rcases q with (q | ⟨o, q⟩) | (q | ⟨o, q⟩) <;> rw [upd_same] at q <;> cases q
    exact h2
  · rcases q with (q | ⟨o, q⟩) | (q | ⟨o, q⟩) <;> rw [upd_ne e] at q
    · exact z b us (.inl (.inl q))
    · exact z b us (.inl (.inr ⟨o, q⟩))
    · exact z b us (.inr (.inl q))
    · exact z b us (.inr (.inr ⟨o, q⟩))
theorem enumF_get : ∀ (xs : List PV) (k i : Nat), (enumF k xs)[i]? = xs[i]?.map fun x => .seq true [.int ((k + i : Nat) : Int), x]
  | [], k, i => by simp [enumF]
  | x :: xs, k, 0 => by simp [enumF]
  | x :: xs, k, i + 1 => by
    simp only [enumF, List.getElem?_cons_succ]
    rw [enumF_get xs (k + 1) i]
    congr 1
    funext y
    rw [show k + 1 + i = k + (i + 1) by omega]
theorem enumF_len : ∀ (xs : List PV) (k : Nat), (enumF k xs).length = xs.length
  | [], _ => rfl
  | _ :: xs, k => congrArg Nat.succ (enumF_len xs (k + 1))
theorem WalkOk.enum {W : Wd} {H : Hp} {a : Addr} {us : List V} {xs : List PV} (S : Sep W H) (z : Sz H) (f : W.F a) (h : H a = some (.lst us)) (d : Dens K C W H us xs) : WalkOk K C W H (Ite K a) (enumF 0 xs) := by
  refine ⟨by rw [enumF_len, ← d.len]; exact z a us (.inl (.inl h)), _, _, by rw [enumF_len, ← d.len]; exact walk_enum (K := K) (a := a) (xs := us), fun W' H' x => SqL.of (kept_of S x _ _ h (.inl f)), fun W' H' i x H2 xx S' z' y => ?_⟩
  obtain ⟨T, u, w, rfl, hT, rfl, e1, e2⟩ := y
  cases e1
  obtain ⟨p, h1, h2⟩ := (d.extS S xx).getV e2
  refine ⟨.seq true [.int (i : Nat), p], by rw [enumF_get, h1]; simp, ?_, fun b u e => by rw [upd_ne (ne_of_none e hT)]; exact e, S'.new hT, z'.tup2 hT⟩
  exact .tup (.inl (.inl upd_same)) (.cons (.int _) (.cons (h2.ext S' (Ext.new hT)) .nil))
end

section
variable (K : PySem.W.Frag) (C : Nat → Addr) (Wx : WX)
def tI (f : Frm → Sto → Out (List PV)) : TI := fun σ H R => ∃ W fr st, Rel K C W H σ fr st ∧
  Post (f fr st) (fun xs st' => ∀ W' H' J, Ext W H W' H' → W'.o = W.o → Rel K C W' H' σ fr st' → WalkOk K C W' H' J xs → R J H') (EndX K C Wx W H σ fr)
end
end Rm
set_option Elab.async false
set_option linter.all false
set_option maxHeartbeats 4000000
/-! Which term stands for which expression; a term's promise is the machine's. First: rule by rule. -/
namespace Rm
open PySem PySem.Spec L2

/-- a test's reading -/
def evT (S : Sig) (e : E) (fr : Frm) (st : Sto) : Out Bool := (evE S e fr st).bind fun p st => .of (truF (deref fr st p)) st

section
variable {S : Sig}
theorem evE_neg (a : E) : evE S (.neg a) = fun fr st => (evE S a fr st).bind fun p st => .of (negF p) st := by funext fr st; simp only [evE]
theorem evE_not (a : E) : evE S (.not a) = fun fr st => (evE S a fr st).bind fun p st => (Out.of (truF (deref fr st p)) st).bind fun b st => .ok (.bl (!b)) st := by funext fr st; simp only [evE]
theorem evE_bin (op : Op) (a b : E) : evE S (.bin op a b) = fun fr st => (evE S a fr st).bind fun x st => (evE S b fr st).bind fun y st => .of (binF op (deref fr st x) (deref fr st y)) st := by funext fr st; simp only [evE]
theorem evE_cmp (op : Cop) (a b : E) : evE S (.cmp op a b) = fun fr st => (evE S a fr st).bind fun x st => (evE S b fr st).bind fun y st => (Out.of (cmpF op (deref fr st x) (deref fr st y)) st).bind fun k st => .ok (.bl k) st := by funext fr st; simp only [evE]
end
section
variable {C : Nat → Addr} {Wx : WX} {S : Sig} {X : Cx} {n : Nat}

/-! ### two readings in a row -/
theorem tE_then {f : Frm → Sto → Out PV} {g : PV → Frm → Sto → Out PV} {σ : St} {H : Hp} {Q : VK} (h : tE X.K C Wx (fun fr st => (f fr st).bind fun p st => g p fr st) σ H Q) :
    tE X.K C Wx f σ H fun v H1 => ∃ W fr st p, Rel X.K C W H1 σ fr st ∧ DenM X.K C W H1 v p ∧ Post (g p fr st) (fun z st' => EndOk X.K C W H1 σ fr st' z Q) (EndX X.K C Wx W H1 σ fr) := by
  obtain ⟨W, fr, st, R, h⟩ := h
  refine ⟨W, fr, st, R, h.bind.imp (fun p st1 h1 W1 H1 v x o R1 D => ⟨W1, fr, st1, p, R1, D, ?_⟩) fun _ _ _ z => z⟩
  exact h1.imp (fun _ _ z => EndOk.shift z x o) fun _ _ _ z => EndX.shift z x o
theorem tFr_then {f : Frm → Sto → Out PV} {g : PV → Frm → Sto → Out PV} {σ : St} {H : Hp} {Q : VK} (h : tFr X.K C Wx (fun fr st => (f fr st).bind fun p st => g p fr st) σ H Q) :
    tE X.K C Wx f σ H fun v H1 => ∃ W fr st p, Rel X.K C W H1 σ fr st ∧ DenM X.K C W H1 v p ∧ Post (g p fr st) (fun z st' => EndFr X.K C W H1 σ fr st' z Q) (EndX X.K C Wx W H1 σ fr) := by
  obtain ⟨W, fr, st, R, h⟩ := h
  refine ⟨W, fr, st, R, h.bind.imp (fun p st1 h1 W1 H1 v x o R1 D => ⟨W1, fr, st1, p, R1, D, ?_⟩) fun _ _ _ z => z⟩
  exact h1.imp (fun _ _ z => EndFr.shift z x o) fun _ _ _ z => EndX.shift z x o
/-- .. of two -/
theorem tFr_two {f g : Frm → Sto → Out PV} {k : PV → PV → Frm → Sto → Out PV} {σ : St} {H : Hp} {Q : VK} (h : tFr X.K C Wx (fun fr st => (f fr st).bind fun x st => (g fr st).bind fun y st => k x y fr st) σ H Q) :
    tE X.K C Wx f σ H fun v H1 => tE X.K C Wx g σ H1 fun u H2 => ∃ W fr st x y, Rel X.K C W H2 σ fr st ∧ DenM X.K C W H2 v x ∧ DenM X.K C W H2 u y ∧ Post (k x y fr st) (fun z st' => EndFr X.K C W H2 σ fr st' z Q) (EndX X.K C Wx W H2 σ fr) := by
  obtain ⟨W, fr, st, R, h⟩ := h
  refine ⟨W, fr, st, R, h.bind.imp (fun p st1 h1 W1 H1 v x o R1 D => ⟨W1, fr, st1, R1, h1.bind.imp (fun q st2 h2 W2 H2 u x2 o2 R2 D2 => ⟨W2, fr, st2, p, q, R2, DenM.ext R1.s.sep x2 o2 D, D2, ?_⟩) fun _ _ _ z => EndX.shift z x o⟩) fun _ _ _ z => z⟩
  exact h2.imp (fun _ _ z => EndFr.shift z (x.trans x2) (o2.trans o)) fun _ _ _ z => EndX.shift z (x.trans x2) (o2.trans o)
theorem tE_two {f g : Frm → Sto → Out PV} {k : PV → PV → Frm → Sto → Out PV} {σ : St} {H : Hp} {Q : VK} (h : tE X.K C Wx (fun fr st => (f fr st).bind fun x st => (g fr st).bind fun y st => k x y fr st) σ H Q) :
    tE X.K C Wx f σ H fun v H1 => tE X.K C Wx g σ H1 fun u H2 => ∃ W fr st x y, Rel X.K C W H2 σ fr st ∧ DenM X.K C W H2 v x ∧ DenM X.K C W H2 u y ∧ Post (k x y fr st) (fun z st' => EndOk X.K C W H2 σ fr st' z Q) (EndX X.K C Wx W H2 σ fr) := by
  obtain ⟨W, fr, st, R, h⟩ := h
  refine ⟨W, fr, st, R, h.bind.imp (fun p st1 h1 W1 H1 v x o R1 D => ⟨W1, fr, st1, R1, h1.bind.imp (fun q st2 h2 W2 H2 u x2 o2 R2 D2 => ⟨W2, fr, st2, p, q, R2, DenM.ext R1.s.sep x2 o2 D, D2, ?_⟩) fun _ _ _ z => EndX.shift z x o⟩) fun _ _ _ z => z⟩
  exact h2.imp (fun _ _ z => EndOk.shift z (x.trans x2) (o2.trans o)) fun _ _ _ z => EndX.shift z (x.trans x2) (o2.trans o)
/-- an end by a plain truth -/
theorem end_bl {W : Wd} {H : Hp} {σ : St} {fr : Frm} {st : Sto} {b : Bool} {Q : VK} (R : Rel X.K C W H σ fr st) (h : EndOk X.K C W H σ fr st (.bl b) Q) : Q (.bl b) H := h W H _ (.refl _ _) rfl R (.inl (.bl b))
theorem end_int {W : Wd} {H : Hp} {σ : St} {fr : Frm} {st : Sto} {b : Int} {Q : VK} (R : Rel X.K C W H σ fr st) (h : EndOk X.K C W H σ fr st (.int b) Q) : Q (.int b) H := h W H _ (.refl _ _) rfl R (.inl (.int b))
theorem end_t {W : Wd} {H : Hp} {σ : St} {fr : Frm} {st : Sto} {b : Bool} {Q : Bool → Hp → Prop} (R : Rel X.K C W H σ fr st) (h : EndT X.K C W H σ fr st b Q) : Q b H := h W H (.refl _ _) rfl R

/-- a fresh telling is enough -/
theorem PE_fresh {a : Expr} {f : Frm → Sto → Out PV} (h : PE X a (tFr X.K C Wx f)) : PE X a (tE X.K C Wx f) := PE_imp h fun σ H Q _ q => by
  have := tE_fr q
  obtain ⟨W, fr, st, R, p⟩ := this
  refine ⟨W, fr, st, R, p.imp (fun z st' e => ⟨fun W' H' v hp x o R' D _ => e.1 W' H' v hp x o R' D, fun W' H' a us xs hp x o R' e1 D n1 n2 n3 hn _ => e.2 W' H' a us xs hp x o R' e1 D n1 n2 n3 hn⟩) fun _ _ _ z => z⟩

theorem PT_plain {a : Expr} {e : E} (h : PE X a (tE X.K C Wx (evE S e))) (he : ∀ whole, isTrue a X.env whole = (do let v ← whole; standAt a.pos; holding [v] (truthy v))) : PT X a (tT X.K C Wx (evT S e)) := by
  refine PT_imp (pt_truth h he) fun σ H Q _ q => ?_
  obtain ⟨W, fr, st, R, q⟩ := q
  refine ⟨W, fr, st, R, q.bind.imp (fun p st1 h1 W1 H1 v x o R1 D => ?_) fun _ _ _ z => z⟩
  obtain ⟨k, hk, h2⟩ := h1.of
  exact ⟨k, truF_ok (R1.deref D) hk, fun _ => h2 W1 H1 x o R1⟩

/-! ### names, constants -/
theorem pe_rv {x : Str} {pos : Pos} {i : Nat} (hN : X.N[i]? = some x) (hv : Vis X.env.scope x) (h1 : (x == ("__debug__" : Str)) = false) (h2 : (x == ("__classdict__" : Str)) = false) : PE X (.Name x pos) (tE X.K C Wx (evE S (.var i))) := by
  refine PE_imp (pe_var hN hv h1 h2) fun σ H Q _ q => ?_
  obtain ⟨W, fr, st, R, q⟩ := q
  simp only [evE] at q
  split at q
  · rename_i p hp
    obtain ⟨v, e, d⟩ := R.slt i p hp
    exact ⟨v, e, fun _ => q W H v (.refl _ _) rfl R (.inl d)⟩
  · rename_i xs hp
    obtain ⟨a, us, e, o, _⟩ := R.own i xs hp
    exact ⟨_, e, fun _ => q W H _ (.refl _ _) rfl R (.inr ⟨a, i, rfl, rfl, o⟩)⟩
  · exact q.elim
theorem pe_rg {x : Str} {pos : Pos} {k : Nat} {p : PV} {u : Value} {v : V} (gl : Gl X x) (h1 : (x == ("__debug__" : Str)) = false) (hm : X.mg x = some u) (r : RelV v u) (hg : S.glb[k]? = some p) (hd : ∀ W H, Den X.K C W H v p) : PE X (.Name x pos) (tE X.K C Wx (evE S (.glb k))) := by
  refine PE_imp (pe_glob gl hm r h1) fun σ H Q _ q => ?_
  obtain ⟨W, fr, st, R, q⟩ := q
  simp only [evE, hg, Out.of_some] at q
  exact fun _ => q W H v (.refl _ _) rfl R (.inl (hd W H))
def constOk : Const → PV → Bool
  | .none, .non => true
  | .bool b, .bl b' => b == b'
  | .int i, .int j => decide (i = j)
  | .str x, .str y => decide (x = y)
  | _, _ => false
theorem pe_rc {k : Const} {j : Nat} {pos : Pos} {p : PV} (h : constOk k p = true) : PE X (.Constant k j pos) (tE X.K C Wx (evE S (.cst p))) := by
  cases k <;> cases p <;> simp only [constOk, reduceCtorEq] at h
  · refine PE_imp pe_non fun σ H Q _ ⟨W, fr, st, R, q⟩ => ?_
    simp only [evE] at q
    exact fun _ => q W H _ (.refl _ _) rfl R (.inl .non)
  · rename_i b b'
    obtain rfl : b = b' := by simpa using h
    refine PE_imp pe_bl fun σ H Q _ ⟨W, fr, st, R, q⟩ => ?_
    simp only [evE] at q
    exact fun _ => q W H _ (.refl _ _) rfl R (.inl (.bl b))
  · rename_i b b'
    obtain rfl : b = b' := by simpa using h
    refine PE_imp pe_int fun σ H Q _ ⟨W, fr, st, R, q⟩ => ?_
    simp only [evE] at q
    exact fun _ => q W H _ (.refl _ _) rfl R (.inl (.int b))
  · rename_i b b'
    obtain rfl : b = b' := by simpa using h
    refine PE_imp pe_str fun σ H Q _ ⟨W, fr, st, R, q⟩ => ?_
    simp only [evE] at q
    exact fun _ => q W H _ (.refl _ _) rfl R (.inl (.str b))

/-! ### operators -/
theorem pe_rneg {a : Expr} {pos : Pos} {e : E} (ha : PE X a (tE X.K C Wx (evE S e))) : PE X (.UnaryOp .USub a pos) (tE X.K C Wx (evE S (.neg e))) := by
  refine PE_imp (pe_un un_neg ha) fun σ H Q _ q => ?_
  rw [evE_neg] at q
  obtain ⟨W, fr, st, R, q⟩ := tE_then q
  refine ⟨W, fr, st, R, q.imp (fun p st1 k W1 H1 v x o R1 D => ?_) fun _ _ _ z => z⟩
  obtain ⟨W2, fr2, st2, p2, R2, D2, hp⟩ := k W1 H1 v x o R1 D
  obtain ⟨z, hz, hp⟩ := hp.of
  cases p2 <;> simp only [negF, reduceCtorEq] at hz
  cases hz
  have D3 := D2.den rfl
  cases D3
  exact ⟨_, rfl, fun _ => end_int R2 hp⟩
theorem pe_rnot {a : Expr} {pos : Pos} {e : E} (ha : PE X a (tE X.K C Wx (evE S e))) : PE X (.UnaryOp .Not a pos) (tE X.K C Wx (evE S (.not e))) := by
  refine PE_imp (pe_notT ha) fun σ H Q _ q => ?_
  rw [evE_not] at q
  obtain ⟨W, fr, st, R, q⟩ := tE_then q
  refine ⟨W, fr, st, R, q.imp (fun p st1 k W1 H1 v x o R1 D => ?_) fun _ _ _ z => z⟩
  obtain ⟨W2, fr2, st2, p2, R2, D2, hp⟩ := k W1 H1 v x o R1 D
  obtain ⟨b, hb, h3⟩ := hp.bind.of
  exact ⟨b, truF_ok (R2.deref D2) hb, fun _ => end_bl R2 h3⟩
theorem pt_rnot {a : Expr} {pos : Pos} {e : E} (ha : PT X a (tT X.K C Wx (evT S e))) : PT X (.UnaryOp .Not a pos) (tT X.K C Wx (evT S (.not e))) := by
  refine PT_imp (pt_not ha) fun σ H Q _ q => ?_
  obtain ⟨W, fr, st, R, q⟩ := q
  refine ⟨W, fr, st, R, ?_⟩
  simp only [evT, evE] at q ⊢
  have q1 := q.bind.bind
  cases h : evE S e fr st with
  | bad => rw [h] at q1; exact q1
  | exc c p st1 => rw [h] at q1; exact q1
  | ok p st1 =>
    rw [h] at q1
    simp only [Out.bind_ok]
    have q2 : Post (Out.of (truF (Rm.deref fr st1 p)) st1) _ _ := Post.bind q1
    obtain ⟨b, hb, h3⟩ := q2.of
    rw [hb]
    exact fun W1 H1 x o R1 _ => h3 W1 H1 x o R1
theorem pe_rbin {a b : Expr} {pos : Pos} {op : Op} {e f : E} (ha : PE X a (tE X.K C Wx (evE S e))) (hb : PE X b (tE X.K C Wx (evE S f))) : PE X (.BinOp a (opA op) b pos) (tFr X.K C Wx (evE S (.bin op e f))) := by
  refine PE_imp (pe_op (op_binF (C := C) op) ha hb) fun σ H Q _ q => ?_
  rw [evE_bin] at q
  obtain ⟨W, fr, st, R, q⟩ := tFr_two q
  refine ⟨W, fr, st, R, q.imp (fun p st1 k W1 H1 v x o R1 D => ?_) fun _ _ _ z => z⟩
  obtain ⟨W2, fr2, st2, R2, k⟩ := k W1 H1 v x o R1 D
  refine ⟨W2, fr2, st2, R2, k.imp (fun p2 st3 k2 W3 H3 u x3 o3 R3 D3 => ?_) fun _ _ _ z => z⟩
  obtain ⟨W4, fr4, st4, px, py, R4, Dx, Dy, hp⟩ := k2 W3 H3 u x3 o3 R3 D3
  obtain ⟨z, hz, g⟩ := hp.of
  have pl : plainV z = true := by
    cases op <;> (cases hx : Rm.deref fr4 st4 px <;> cases hy : Rm.deref fr4 st4 py <;> rw [hx, hy] at hz <;> simp only [binF, reduceCtorEq] at hz) <;> first
      | (cases hz; rfl)
      | (split at hz <;> first | (cases hz; rfl) | cases hz)
  exact ⟨W4, _, _, z, R4.deref Dx, R4.deref Dy, hz, g.gv R4 pl⟩

def noSet : Expr → Bool
  | .Set _ _ _ => false
  | _ => true
theorem noSet_ok {b : Expr} {op : CmpOp} (h : noSet b = true) : behindInMarks op b = false := by
  cases b <;> first | rfl | cases h
theorem pe_rcmp {a b : Expr} {pos : Pos} {op : Cop} {e f : E} (hu : X.A.units + 65 < cLine) (hm : noSet b = true) (ha : PE X a (tE X.K C Wx (evE S e))) (hb : PE X b (tE X.K C Wx (evE S f))) :
    PE X (.Compare a [copA op] [b] pos) (tE X.K C Wx (evE S (.cmp op e f))) ∧ PT X (.Compare a [copA op] [b] pos) (tT X.K C Wx (evT S (.cmp op e f))) := by
  refine ⟨PE_imp (pe_cmpR (op_cmpF (C := C) hu op) ha hb (noSet_ok hm)) fun σ H Q _ q => ?_, PT_imp (pt_cmpR (op_cmpF (C := C) hu op) ha hb (noSet_ok hm)) fun σ H Q _ q => ?_⟩
  · rw [evE_cmp] at q
    obtain ⟨W, fr, st, R, q⟩ := tE_two q
    refine ⟨W, fr, st, R, q.imp (fun p st1 k W1 H1 v x o R1 D => ?_) fun _ _ _ z => z⟩
    obtain ⟨W2, fr2, st2, R2, k⟩ := k W1 H1 v x o R1 D
    refine ⟨W2, fr2, st2, R2, k.imp (fun p2 st3 k2 W3 H3 u x3 o3 R3 D3 => ?_) fun _ _ _ z => z⟩
    obtain ⟨W4, fr4, st4, px, py, R4, Dx, Dy, hp⟩ := k2 W3 H3 u x3 o3 R3 D3
    obtain ⟨z, hz, g⟩ := hp.bind.of
    exact ⟨W4, _, _, z, R4.deref Dx, R4.deref Dy, hz, fun _ => end_bl R4 g⟩
  · obtain ⟨W, fr, st, R, q⟩ := q
    simp only [evT, evE] at q
    refine ⟨W, fr, st, R, q.bind.bind.imp (fun p st1 h1 W1 H1 v x o R1 D => ⟨W1, fr, st1, R1, h1.bind.imp (fun p2 st2 h2 W2 H2 u x2 o2 R2 D2 => ?_) fun _ _ _ z => EndX.shift z x o⟩) fun _ _ _ z => z⟩
    obtain ⟨z, hz, g⟩ := h2.bind.of
    refine ⟨W2, _, _, z, R2.deref (DenM.ext R1.s.sep x2 o2 D), R2.deref D2, hz, z, rfl, fun _ => ?_⟩
    exact g W2 H2 (x.trans x2) (o2.trans o) R2
end
end Rm
set_option Elab.async false
set_option linter.all false
set_option maxHeartbeats 4000000
/-! Rule by rule, the second part: chains, and, or, choices, displays, places, slices, built-ins, isinstance. -/
namespace Rm
open PySem PySem.Spec L2
section
variable {S : Sig}
theorem evE_chn (o1 o2 : Cop) (a b c : E) : evE S (.chn o1 o2 a b c) = fun fr st => (evE S a fr st).bind fun x st => (evE S b fr st).bind fun y st => (Out.of (cmpF o1 (deref fr st x) (deref fr st y)) st).bind fun k st =>
      if k = true then (evE S c fr st).bind fun z st => (Out.of (cmpF o2 (deref fr st y) (deref fr st z)) st).bind fun k st => .ok (.bl k) st else .ok (.bl false) st := by funext fr st; simp only [evE]
theorem evE_sub (a b : E) : evE S (.sub a b) = fun fr st => (evE S a fr st).bind fun x st => (evE S b fr st).bind fun y st => .of (idxF (deref fr st x) y) st := by funext fr st; simp only [evE]
theorem evE_rev (a : E) : evE S (.rev a) = fun fr st => (evE S a fr st).bind fun x st => .of (revF (deref fr st x)) st := by funext fr st; simp only [evE]
theorem evE_idx (a x : E) : evE S (.idx a x) = fun fr st => (evE S a fr st).bind fun v st => (Out.of (lstF (deref fr st v)) st).bind fun _ st => (evE S x fr st).bind fun y st => .of (idxM (deref fr st y) (deref fr st v)) st := by funext fr st; simp only [evE]
theorem evE_cnt (a x : E) : evE S (.cnt a x) = fun fr st => (evE S a fr st).bind fun v st => (Out.of (lstF (deref fr st v)) st).bind fun _ st => (evE S x fr st).bind fun y st => .of (cntM (deref fr st y) (deref fr st v)) st := by funext fr st; simp only [evE]
theorem evE_isi (a : E) (ts : List Ty) : evE S (.isi a ts) = fun fr st => (evE S a fr st).bind fun x st => (Out.of (isiAny S (deref fr st x) ts) st).bind fun k st => .ok (.bl k) st := by funext fr st; simp only [evE]
end
section
variable {C : Nat → Addr} {Wx : WX} {S : Sig} {X : Cx} {n : Nat}

theorem pe_rchn {a b d : Expr} {pos : Pos} {o1 o2 : Cop} {e f g : E} (hu : X.A.units + 65 < cLine) (hm1 : noSet b = true) (hm2 : noSet d = true) (ha : PE X a (tE X.K C Wx (evE S e))) (hb : PE X b (tE X.K C Wx (evE S f))) (hd : PE X d (tE X.K C Wx (evE S g))) :
    PE X (.Compare a [copA o1, copA o2] [b, d] pos) (tE X.K C Wx (evE S (.chn o1 o2 e f g))) ∧ PT X (.Compare a [copA o1, copA o2] [b, d] pos) (tT X.K C Wx (evT S (.chn o1 o2 e f g))) := by
  have m1 : ∀ {op : CmpOp}, behindInMarks op b = false := fun {op} => noSet_ok hm1
  have m2 : ∀ {op : CmpOp}, behindInMarks op d = false := fun {op} => noSet_ok hm2
  have hmk : lastMarks [copA o1, copA o2] [b, d] = false := by
    show behindInMarks (copA o2) d = false
    exact m2
  have key : ∀ {W : Wd} {fr : Frm} {st : Sto} {σ : St} {H : Hp} {G : Bool → Hp → Prop} {Q : VK}, (∀ k H', G k H' → Q (.bl k) H') → Rel X.K C W H σ fr st →
      Post (evE S (.chn o1 o2 e f g) fr st) (fun p st' => ∀ W' H', Ext W H W' H' → W'.o = W.o → Rel X.K C W' H' σ fr st' → ∀ b, p = .bl b → G b H') (EndX X.K C Wx W H σ fr) →
      tChain (rC X.K C o1) (rC X.K C o2) (tE X.K C Wx (evE S e)) (tE X.K C Wx (evE S f)) (tE X.K C Wx (evE S g)) σ H Q := by
    intro W fr st σ H G Q hQ R q
    rw [evE_chn] at q
    refine ⟨W, fr, st, R, q.bind.imp (fun p st1 h1 W1 H1 v x o R1 D => ⟨W1, fr, st1, R1, (Post.bind h1).imp (fun p2 st2 h2 W2 H2 u x2 o2 R2 D2 => ?_) fun _ _ _ z => EndX.shift z x o⟩) fun _ _ _ z => z⟩
    obtain ⟨k1, hk1, h3⟩ := Post.of (Post.bind h2)
    refine ⟨W2, _, _, k1, R2.deref (DenM.ext R1.s.sep x2 o2 D), R2.deref D2, hk1, k1, rfl, ?_⟩
    cases k1 with
    | false =>
      simp only [Bool.false_eq_true, if_false] at h3 ⊢
      exact hQ _ _ (h3 W2 H2 (x.trans x2) (o2.trans o) R2 _ rfl)
    | true =>
      simp only [if_true] at h3 ⊢
      refine ⟨W2, fr, st2, R2, (Post.bind h3).imp (fun p3 st3 h4 W3 H3 w x3 o3 R3 D3 => ?_) fun _ _ _ z => EndX.shift z (x.trans x2) (o2.trans o)⟩
      obtain ⟨k2, hk2, h5⟩ := Post.of (Post.bind h4)
      refine ⟨W3, _, _, k2, R3.deref (DenM.ext R2.s.sep x3 o3 D2), R3.deref D3, hk2, ?_⟩
      exact hQ _ _ (h5 W3 H3 ((x.trans x2).trans x3) (o3.trans (o2.trans o)) R3 _ rfl)
  refine ⟨PE_imp (pe_chain (op_cmpF (C := C) hu o1) (op_cmpF (C := C) hu o2) ha hb hd hmk) fun σ H Q _ q => ?_, PT_imp (pt_chain (op_cmpF (C := C) hu o1) (op_cmpF (C := C) hu o2) ha hb hd hmk) fun σ H Q _ q => ?_⟩
  · obtain ⟨W, fr, st, R, q⟩ := q
    refine key (G := fun k H' => Q (.bl k) H') (fun k H' h _ => h) R (q.imp (fun p st' z W' H' x o R' b e => ?_) fun _ _ _ z => z)
    subst e
    exact z W' H' _ x o R' (.inl (.bl b))
  · obtain ⟨W, fr, st, R, q⟩ := q
    refine key (G := fun k H' => Q k H') (fun k H' h => ⟨k, rfl, fun _ => h⟩) R ((Post.bind q).imp (fun p st' z W' H' x o R' b e => ?_) fun _ _ _ z => z)
    subst e
    exact z W' H' x o R'

/-! ### and, or -/
theorem evA_cons (a l : E) : evA S (.cons a l) = fun fr st => (evE S a fr st).bind fun x st => (Out.of (blF x) st).bind fun b st => if b = true then evA S l fr st else .ok (.bl false) st := by funext fr st; simp only [evA]
theorem evR_cons (a l : E) : evR S (.cons a l) = fun fr st => (evE S a fr st).bind fun x st => (Out.of (blF x) st).bind fun b st => if b = true then .ok (.bl true) st else evR S l fr st := by funext fr st; simp only [evR]
theorem blF_ok {W : Wd} {H : Hp} {v : V} {p : PV} {b : Bool} (d : DenM X.K C W H v p) (h : blF p = some b) : v = .bl b ∧ p = .bl b := by
  cases p <;> simp only [blF, reduceCtorEq] at h
  cases h
  have d' := d.den rfl
  cases d'
  exact ⟨rfl, rfl⟩
def AndC (C : Nat → Addr) (Wx : WX) (S : Sig) (X : Cx) (op : BoolOp) (es : List Expr) (f : Frm → Sto → Out PV) : Prop :=
  ∀ pos, PE X (.BoolOp op es pos) (tE X.K C Wx f) ∧ PW X (.BoolOp op es pos) (tT X.K C Wx fun fr st => (f fr st).bind fun p st => .of (truF (deref fr st p)) st)
theorem PW_imp {e : Expr} {t t' : TT} (h : PW X e t) (k : ∀ σ H Q, Sz H → t' σ H Q → t σ H (fun v H' => Sz H' → Q v H')) : PW X e t' := by
  refine ⟨fun wh pins s σ H Q I hw => ?_⟩
  exact thn (h.run wh pins s σ H _ I (k σ H Q (Inv.sz' I) hw)) fun u s1 ⟨H1, I1, q1⟩ => ⟨H1, I1, q1 (Inv.sz' I1)⟩
theorem and_one {a : Expr} {e : E} (h : PE X a (tE X.K C Wx (evE S e)) ∧ PT X a (tT X.K C Wx (evT S e))) : AndC C Wx S X .And [a] (evA S (.cons e .nil)) := by
  intro pos
  refine ⟨PE_imp (pe_one h.1) fun σ H Q _ q => ?_, PW_imp (pw_and1 h.2) fun σ H Q _ q => ?_⟩
  · rw [evA_cons] at q
    obtain ⟨W, fr, st, R, q⟩ := q
    refine ⟨W, fr, st, R, q.bind.imp (fun p st1 h1 W1 H1 v x o R1 D _ => ?_) fun _ _ _ z => z⟩
    obtain ⟨b, hb, h2⟩ := Post.of (Post.bind h1)
    obtain ⟨rfl, rfl⟩ := blF_ok D hb
    cases b
    · exact h2 W1 H1 _ x o R1 D
    · simp only [if_true, evA] at h2
      exact h2 W1 H1 _ x o R1 D
  · obtain ⟨W, fr, st, R, q⟩ := q
    rw [evA_cons] at q
    refine ⟨W, fr, st, R, ?_⟩
    have q1 := q.bind.bind
    show Post ((evE S e fr st).bind _) _ _
    cases hh : evE S e fr st with
    | bad => rw [hh] at q1; exact q1
    | exc c p st1 => rw [hh] at q1; exact q1
    | ok p st1 =>
      rw [hh] at q1
      obtain ⟨b, hb, h2⟩ := Post.of (Post.bind (show Post ((Out.of (blF p) st1).bind _) _ _ from q1))
      cases p <;> simp only [blF, reduceCtorEq] at hb
      cases hb
      cases b
      · exact fun W1 H1 x o R1 _ => h2 W1 H1 x o R1
      · simp only [if_true, evA] at h2
        exact fun W1 H1 x o R1 _ => h2 W1 H1 x o R1
theorem or_one {a : Expr} {e : E} (h : PE X a (tE X.K C Wx (evE S e)) ∧ PT X a (tT X.K C Wx (evT S e))) : AndC C Wx S X .Or [a] (evR S (.cons e .nil)) := by
  intro pos
  refine ⟨PE_imp (pe_one h.1) fun σ H Q _ q => ?_, PW_imp (pw_or1 h.2) fun σ H Q _ q => ?_⟩
  · rw [evR_cons] at q
    obtain ⟨W, fr, st, R, q⟩ := q
    refine ⟨W, fr, st, R, q.bind.imp (fun p st1 h1 W1 H1 v x o R1 D _ => ?_) fun _ _ _ z => z⟩
    obtain ⟨b, hb, h2⟩ := Post.of (Post.bind h1)
    obtain ⟨rfl, rfl⟩ := blF_ok D hb
    cases b
    · simp only [Bool.false_eq_true, if_false, evR] at h2
      exact h2 W1 H1 _ x o R1 D
    · exact h2 W1 H1 _ x o R1 D
  · obtain ⟨W, fr, st, R, q⟩ := q
    rw [evR_cons] at q
    refine ⟨W, fr, st, R, ?_⟩
    have q1 := q.bind.bind
    show Post ((evE S e fr st).bind _) _ _
    cases hh : evE S e fr st with
    | bad => rw [hh] at q1; exact q1
    | exc c p st1 => rw [hh] at q1; exact q1
    | ok p st1 =>
      rw [hh] at q1
      obtain ⟨b, hb, h2⟩ := Post.of (Post.bind (show Post ((Out.of (blF p) st1).bind _) _ _ from q1))
      cases p <;> simp only [blF, reduceCtorEq] at hb
      cases hb
      cases b
      · simp only [Bool.false_eq_true, if_false, evR] at h2
        exact fun W1 H1 x o R1 _ => h2 W1 H1 x o R1
      · exact fun W1 H1 x o R1 _ => h2 W1 H1 x o R1
theorem and_cons {a b : Expr} {rest : List Expr} {e l : E} (h : PE X a (tE X.K C Wx (evE S e)) ∧ PT X a (tT X.K C Wx (evT S e))) (hr : AndC C Wx S X .And (b :: rest) (evA S l)) : AndC C Wx S X .And (a :: b :: rest) (evA S (.cons e l)) := by
  intro pos
  refine ⟨PE_imp (pe_and h.1 (hr pos).1) fun σ H Q _ q => ?_, PW_imp (pw_and h.2 (hr pos).2) fun σ H Q _ q => ?_⟩
  · rw [evA_cons] at q
    obtain ⟨W, fr, st, R, q⟩ := q
    refine ⟨W, fr, st, R, q.bind.imp (fun p st1 h1 W1 H1 v x o R1 D => ?_) fun _ _ _ z => z⟩
    obtain ⟨b, hb, h2⟩ := Post.of (Post.bind h1)
    obtain ⟨rfl, rfl⟩ := blF_ok D hb
    refine ⟨b, rfl, ?_⟩
    cases b
    · simp only [Bool.false_eq_true, if_false] at h2 ⊢
      exact fun _ => h2 W1 H1 _ x o R1 D
    · simp only [if_true] at h2 ⊢
      exact ⟨W1, fr, st1, R1, h2.imp (fun _ _ z W' H' v x' o' R' D' _ => z W' H' v (x.trans x') (o'.trans o) R' D') fun _ _ _ z => EndX.shift z x o⟩
  · obtain ⟨W, fr, st, R, q⟩ := q
    rw [evA_cons] at q
    refine ⟨W, fr, st, R, ?_⟩
    have q1 := q.bind.bind
    show Post ((evE S e fr st).bind _) _ _
    cases hh : evE S e fr st with
    | bad => rw [hh] at q1; exact q1
    | exc c p st1 => rw [hh] at q1; exact q1
    | ok p st1 =>
      rw [hh] at q1
      obtain ⟨b, hb, h2⟩ := Post.of (Post.bind (show Post ((Out.of (blF p) st1).bind _) _ _ from q1))
      cases p <;> simp only [blF, reduceCtorEq] at hb
      cases hb
      cases b
      · simp only [Bool.false_eq_true, if_false] at h2
        exact fun W1 H1 x o R1 _ => h2 W1 H1 x o R1
      · simp only [if_true] at h2
        intro W1 H1 x o R1
        simp only [if_true]
        refine ⟨W1, fr, st1, R1, ?_⟩
        have h3 : Post ((evA S l fr st1).bind fun p st => Out.of (truF (Rm.deref fr st p)) st) (fun b st' => EndT X.K C W H σ fr st' b Q) (EndX X.K C Wx W H σ fr) := by
          cases hl : evA S l fr st1 with
          | bad => rw [hl] at h2; exact h2
          | exc c p st2 => rw [hl] at h2; exact h2
          | ok p st2 => rw [hl] at h2; exact h2
        exact h3.imp (fun _ _ z W' H' x' o' R' _ => z W' H' (x.trans x') (o'.trans o) R') fun _ _ _ z => EndX.shift z x o
theorem or_cons {a b : Expr} {rest : List Expr} {e l : E} (h : PE X a (tE X.K C Wx (evE S e)) ∧ PT X a (tT X.K C Wx (evT S e))) (hr : AndC C Wx S X .Or (b :: rest) (evR S l)) : AndC C Wx S X .Or (a :: b :: rest) (evR S (.cons e l)) := by
  intro pos
  refine ⟨PE_imp (pe_or h.1 (hr pos).1) fun σ H Q _ q => ?_, PW_imp (pw_or h.2 (hr pos).2) fun σ H Q _ q => ?_⟩
  · rw [evR_cons] at q
    obtain ⟨W, fr, st, R, q⟩ := q
    refine ⟨W, fr, st, R, q.bind.imp (fun p st1 h1 W1 H1 v x o R1 D => ?_) fun _ _ _ z => z⟩
    obtain ⟨b, hb, h2⟩ := Post.of (Post.bind h1)
    obtain ⟨rfl, rfl⟩ := blF_ok D hb
    refine ⟨b, rfl, ?_⟩
    cases b
    · simp only [Bool.false_eq_true, if_false] at h2 ⊢
      exact ⟨W1, fr, st1, R1, h2.imp (fun _ _ z W' H' v x' o' R' D' _ => z W' H' v (x.trans x') (o'.trans o) R' D') fun _ _ _ z => EndX.shift z x o⟩
    · simp only [if_true] at h2 ⊢
      exact fun _ => h2 W1 H1 _ x o R1 D
  · obtain ⟨W, fr, st, R, q⟩ := q
    rw [evR_cons] at q
    refine ⟨W, fr, st, R, ?_⟩
    have q1 := q.bind.bind
    show Post ((evE S e fr st).bind _) _ _
    cases hh : evE S e fr st with
    | bad => rw [hh] at q1; exact q1
    | exc c p st1 => rw [hh] at q1; exact q1
    | ok p st1 =>
      rw [hh] at q1
      obtain ⟨b, hb, h2⟩ := Post.of (Post.bind (show Post ((Out.of (blF p) st1).bind _) _ _ from q1))
      cases p <;> simp only [blF, reduceCtorEq] at hb
      cases hb
      cases b
      · simp only [Bool.false_eq_true, if_false] at h2
        intro W1 H1 x o R1
        simp only [Bool.false_eq_true, if_false]
        refine ⟨W1, fr, st1, R1, ?_⟩
        have h3 : Post ((evR S l fr st1).bind fun p st => Out.of (truF (Rm.deref fr st p)) st) (fun b st' => EndT X.K C W H σ fr st' b Q) (EndX X.K C Wx W H σ fr) := by
          cases hl : evR S l fr st1 with
          | bad => rw [hl] at h2; exact h2
          | exc c p st2 => rw [hl] at h2; exact h2
          | ok p st2 => rw [hl] at h2; exact h2
        exact h3.imp (fun _ _ z W' H' x' o' R' _ => z W' H' (x.trans x') (o'.trans o) R') fun _ _ _ z => EndX.shift z x o
      · simp only [if_true] at h2
        exact fun W1 H1 x o R1 _ => h2 W1 H1 x o R1

/-! ### a choice -/
theorem pe_rite {c a b : Expr} {pos : Pos} {e f g : E} (hc : PT X c (tT X.K C Wx (evT S e))) (ha : PE X a (tE X.K C Wx (evE S f))) (hb : PE X b (tE X.K C Wx (evE S g))) : PE X (.IfExp c a b pos) (tE X.K C Wx (evE S (.ite e f g))) := by
  refine PE_imp (pe_ifExp hc ha hb) fun σ H Q _ q => ?_
  obtain ⟨W, fr, st, R, q⟩ := q
  simp only [evE] at q
  refine ⟨W, fr, st, R, ?_⟩
  have q1 := q.bind
  show Post ((evE S e fr st).bind _) _ _
  cases hh : evE S e fr st with
  | bad => rw [hh] at q1; exact q1
  | exc c p st1 => rw [hh] at q1; exact q1
  | ok p st1 =>
    rw [hh] at q1
    obtain ⟨k, hk, h2⟩ := Post.of (Post.bind (show Post ((Out.of (truF (Rm.deref fr st1 p)) st1).bind _) _ _ from q1))
    simp only [Out.bind_ok]
    rw [hk]
    intro W1 H1 x o R1
    cases k
    · simp only [Bool.false_eq_true, if_false] at h2 ⊢
      exact ⟨W1, fr, st1, R1, h2.imp (fun _ _ z W' H' v x' o' R' D' _ => z W' H' v (x.trans x') (o'.trans o) R' D') fun _ _ _ z => EndX.shift z x o⟩
    · simp only [if_true] at h2 ⊢
      exact ⟨W1, fr, st1, R1, h2.imp (fun _ _ z W' H' v x' o' R' D' _ => z W' H' v (x.trans x') (o'.trans o) R' D') fun _ _ _ z => EndX.shift z x o⟩
end
end Rm
set_option Elab.async false
set_option linter.all false
set_option maxHeartbeats 4000000
/-! Rule by rule, the third part: displays, places, slices, built-ins, isinstance, index, count. -/
namespace Rm
open PySem PySem.Spec L2
section
variable {C : Nat → Addr} {Wx : WX} {S : Sig} {X : Cx} {n : Nat}

/-! ### lists of expressions -/
theorem pa_rnil : PA X [] (tL X.K C Wx (evL S .nil)) := by
  refine PA_imp pa_nil fun σ H Q _ q => ?_
  obtain ⟨W, fr, st, R, q⟩ := q
  simp only [evL] at q
  exact fun _ => q W H [] (.refl _ _) rfl R .nil
theorem tCons_of {ta : TE} {e l : E} {tr : TA} {σ : St} {H : Hp} {Q : List V → Hp → Prop} (q : tL X.K C Wx (evL S (.cons e l)) σ H Q) :
    tCons (tE X.K C Wx (evE S e)) (tL X.K C Wx (evL S l)) σ H (fun vs H' => Sz H' → Q vs H') := by
  obtain ⟨W, fr, st, R, q⟩ := q
  simp only [evL] at q
  refine ⟨W, fr, st, R, q.bind.imp (fun p st1 h1 W1 H1 v x o R1 D => ⟨W1, fr, st1, R1, (Post.bind h1).imp (fun ps st2 h2 W2 H2 vs x2 o2 R2 D2 _ => ?_) fun _ _ _ z => EndX.shift z x o⟩) fun _ _ _ z => z⟩
  exact h2 W2 H2 _ (x.trans x2) (o2.trans o) R2 (.cons (DenM.ext R1.s.sep x2 o2 D) D2)
theorem pa_rcons {a : Expr} {es : List Expr} {e l : E} (hs : noStar a = true) (ha : PE X a (tE X.K C Wx (evE S e))) (hr : PA X es (tL X.K C Wx (evL S l))) : PA X (a :: es) (tL X.K C Wx (evL S (.cons e l))) :=
  PA_imp (pa_cons ha hr (star_cons hs)) fun σ H Q _ q => tCons_of (ta := tE X.K C Wx (evE S e)) (tr := tL X.K C Wx (evL S l)) q
theorem PK_imp {e : List Keyword} {t t' : TA} (h : PK X e t) (k : ∀ σ H Q, Sz H → t' σ H Q → t σ H (fun v H' => Sz H' → Q v H')) : PK X e t' := by
  refine ⟨fun pos pins s σ H Q I hw => ?_⟩
  exact thn (h.run pos pins s σ H _ I (k σ H Q (Inv.sz' I) hw)) fun u s1 ⟨x, H1, I1, r1, q1⟩ => ⟨x, H1, I1, r1, q1 (Inv.sz' I1)⟩
theorem pk_rnil : PK X [] (tL X.K C Wx (evL S .nil)) := by
  refine PK_imp pk_nil fun σ H Q _ q => ?_
  obtain ⟨W, fr, st, R, q⟩ := q
  simp only [evL] at q
  exact fun _ => q W H [] (.refl _ _) rfl R .nil
theorem pk_rcons {nm : Option Str} {a : Expr} {kp : Pos} {es : List Keyword} {e l : E} (ha : PE X a (tE X.K C Wx (evE S e))) (hr : PK X es (tL X.K C Wx (evL S l))) : PK X (⟨nm, a, kp⟩ :: es) (tL X.K C Wx (evL S (.cons e l))) :=
  PK_imp (pk_cons ha hr) fun σ H Q _ q => tCons_of (ta := tE X.K C Wx (evE S e)) (tr := tL X.K C Wx (evL S l)) q

/-! ### displays -/
theorem pe_rtup {es : List Expr} {k : Nat} {pos : Pos} {l : E} (ha : PA X es (tL X.K C Wx (evL S l))) : PE X (.Tuple es k pos) (tE X.K C Wx (evE S (.tup l))) := by
  refine PE_fresh (PE_imp (pe_tup ha) fun σ H Q _ q => ?_)
  obtain ⟨W, fr, st, R, q⟩ := q
  simp only [evE] at q
  refine ⟨W, fr, st, R, q.bind.imp (fun ps st1 h1 W1 H1 vs x o R1 D => ?_) fun _ _ _ z => z⟩
  split at h1
  · rename_i hk
    have g := EndFr.gv R1 (EndFr.shift (show EndFr X.K C W H σ fr st1 (.seq true ps) Q from h1) x o) rfl
    have dd := D.dens hk.1
    exact ⟨by rw [dd.len]; exact fits_iff.mp hk.2, fun p hp => g.1 p vs hp dd⟩
  · exact h1.elim
theorem pe_rlst {es : List Expr} {pos : Pos} {l : E} (ha : PA X es (tL X.K C Wx (evL S l))) : PE X (.List es pos) (tFr X.K C Wx (evE S (.lst l))) := by
  refine PE_imp (pe_lst ha) fun σ H Q _ q => ?_
  obtain ⟨W, fr, st, R, q⟩ := q
  simp only [evE] at q
  refine ⟨W, fr, st, R, q.bind.imp (fun ps st1 h1 W1 H1 vs x o R1 D => ?_) fun _ _ _ z => z⟩
  split at h1
  · rename_i hk
    have g := EndFr.gv R1 (EndFr.shift (show EndFr X.K C W H σ fr st1 (.seq false ps) Q from h1) x o) rfl
    have dd := D.dens hk.1
    exact ⟨by rw [dd.len]; exact fits_iff.mp hk.2, fun p hp => g p vs hp dd⟩
  · exact h1.elim

/-! ### places, slices -/
def noSlice : Expr → Bool
  | .Slice _ _ _ _ => false
  | _ => true
theorem noSlice_ok {b : Expr} (h : noSlice b = true) : PlainIx b := by
  intro o i
  cases b <;> first | rfl | cases h
theorem pe_rsub {a b : Expr} {pos : Pos} {e f : E} (hm : noSlice b = true) (ha : PE X a (tE X.K C Wx (evE S e))) (hb : PE X b (tE X.K C Wx (evE S f))) : PE X (.Subscript a b pos) (tE X.K C Wx (evE S (.sub e f))) := by
  refine PE_imp (pe_ix (ix_idxF (C := C)) ha hb (noSlice_ok hm)) fun σ H Q _ q => ?_
  rw [evE_sub] at q
  obtain ⟨W, fr, st, R, q⟩ := tE_two q
  refine ⟨W, fr, st, R, q.imp (fun p st1 k W1 H1 v x o R1 D => ?_) fun _ _ _ z => z⟩
  obtain ⟨W2, fr2, st2, R2, k⟩ := k W1 H1 v x o R1 D
  refine ⟨W2, fr2, st2, R2, k.imp (fun p2 st3 k2 W3 H3 u x3 o3 R3 D3 => ?_) fun _ _ _ z => z⟩
  obtain ⟨W4, fr4, st4, px, py, R4, Dx, Dy, hp⟩ := k2 W3 H3 u x3 o3 R3 D3
  obtain ⟨z, hz, g⟩ := hp.of
  exact ⟨W4, _, _, z, R4.deref Dx, Dy, hz, fun w dw _ => g W4 _ w (.refl _ _) rfl R4 (.inl dw)⟩
section
variable (K : PySem.W.Frag) (C : Nat → Addr) (Wx : WX)
def tO (f : Frm → Sto → Out (Option Int)) : TO := fun σ H Q => ∃ W fr st, Rel K C W H σ fr st ∧
  Post (f fr st) (fun i st' => ∀ W' H', Ext W H W' H' → W'.o = W.o → Rel K C W' H' σ fr st' → Q i H') (EndX K C Wx W H σ fr)
end
theorem po_rnone : PO X none (tO X.K C Wx (evO S .nil)) := by
  refine ⟨fun pins s σ H Q I q => po_none.run pins s σ H Q I ?_⟩
  obtain ⟨W, fr, st, R, q⟩ := q
  exact q W H (.refl _ _) rfl R
theorem po_rsome {a : Expr} {e : E} (hne : e ≠ .nil) (ha : PE X a (tE X.K C Wx (evE S e))) : PO X (some a) (tO X.K C Wx (evO S e)) := by
  refine ⟨fun pins s σ H Q I q => (po_some ha).run pins s σ H Q I ?_⟩
  obtain ⟨W, fr, st, R, q⟩ := q
  have q' : Post ((evE S e fr st).bind fun p st => (Out.of (intF p) st).bind fun i st => .ok (some i) st) (fun i st' => ∀ W' H', Ext W H W' H' → W'.o = W.o → Rel X.K C W' H' σ fr st' → Q i H') (EndX X.K C Wx W H σ fr) := by
    cases e <;> first | exact absurd rfl hne | exact q
  refine ⟨W, fr, st, R, q'.bind.imp (fun p st1 h1 W1 H1 v x o R1 D => ?_) fun _ _ _ z => z⟩
  obtain ⟨i, hi, h2⟩ := Post.of (Post.bind h1)
  cases p <;> simp only [intF, reduceCtorEq] at hi
  cases hi
  have d' := D.den rfl
  cases d'
  exact ⟨_, rfl, h2 W1 H1 x o R1⟩
theorem pe_rslc {a : Expr} {lo hi : Option Expr} {p2 pos : Pos} {e l h : E} (ha : PE X a (tE X.K C Wx (evE S e))) (hl : PO X lo (tO X.K C Wx (evO S l))) (hh : PO X hi (tO X.K C Wx (evO S h))) :
    PE X (.Subscript a (.Slice lo hi none p2) pos) (tFr X.K C Wx (evE S (.slc e l h))) := by
  refine PE_imp (pe_slice (sl_cutF (C := C)) ha hl hh) fun σ H Q _ q => ?_
  obtain ⟨W, fr, st, R, q⟩ := q
  simp only [evE] at q
  refine ⟨W, fr, st, R, q.bind.imp (fun p st1 h1 W1 H1 v x o R1 D => ⟨W1, fr, st1, R1, (Post.bind h1).imp (fun i st2 h2 W2 H2 x2 o2 R2 => ⟨W2, fr, st2, R2, (Post.bind h2).imp (fun j st3 h3 W3 H3 x3 o3 R3 => ?_) fun _ _ _ z => EndX.shift z (x.trans x2) (o2.trans o)⟩) fun _ _ _ z => EndX.shift z x o⟩) fun _ _ _ z => z⟩
  obtain ⟨z, hz, g⟩ := h3.of
  have D3 := DenM.ext R2.s.sep x3 o3 (DenM.ext R1.s.sep x2 o2 D)
  have g3 := EndFr.shift g ((x.trans x2).trans x3) (o3.trans (o2.trans o))
  have pl : plainV z = true := by
    cases hx : Rm.deref fr st3 p <;> rw [hx] at hz <;> simp only [cutF, reduceCtorEq] at hz <;> (cases hz; rfl)
  exact ⟨W3, _, z, R3.deref D3, hz, g3.gv R3 pl⟩
theorem pe_rrev {a : Expr} {k : Nat} {p1 p2 p3 pos : Pos} {e : E} (ha : PE X a (tE X.K C Wx (evE S e))) : PE X (.Subscript a (.Slice none none (some (.UnaryOp .USub (.Constant (.int 1) k p1) p2)) p3) pos) (tFr X.K C Wx (evE S (.rev e))) := by
  refine PE_imp (pe_revL ha) fun σ H Q _ q => ?_
  rw [evE_rev] at q
  obtain ⟨W, fr, st, R, q⟩ := tFr_then q
  refine ⟨W, fr, st, R, q.imp (fun p st1 k W1 H1 v x o R1 D => ?_) fun _ _ _ z => z⟩
  obtain ⟨W4, fr4, st4, px, R4, Dx, hp⟩ := k W1 H1 v x o R1 D
  obtain ⟨z, hz, g⟩ := hp.of
  cases hx : Rm.deref fr4 st4 px <;> rw [hx] at hz <;> simp only [revF, reduceCtorEq] at hz
  rename_i t xs
  cases t <;> simp only [reduceCtorEq] at hz
  cases hz
  have dd := R4.deref Dx
  rw [hx] at dd
  obtain ⟨a', us, rfl, ha', ds⟩ := dd.list
  exact ⟨a', us, rfl, SqL.of ha', fun pp hp => g.gv R4 rfl pp us.reverse hp ds.rev⟩

/-! ### built-ins -/
def bltN : Blt → Str
  | .len => "len" | .sum => "sum" | .all => "all" | .any => "any" | .int => "int" | .str => "str" | .bool => "bool" | .repr => "repr" | .tuple => "tuple" | .list => "list" | .sorted => "sorted" | .abs => "abs" | .max => "max" | .min => "min"
theorem bltN_in (b : Blt) : bltN b ∈ bltNames := by cases b <;> decide
theorem bltN_boot (b : Blt) : bootBuiltins (bltN b) = some (bltV b) := by cases b <;> decide +kernel
theorem bltN_nm (b : Blt) : bltN b ≠ "__name__" ∧ (bltN b == ("__debug__" : Str)) = false := by cases b <;> decide
theorem pe_rblt {b : Blt} {p pos : Pos} {a : Expr} {es : List Expr} {l : E} (hc : X.calm = true) (hu : X.A.units + 65 < cLine) (hg : X.A.guards = some []) (gl : Gl X (bltN b)) (hm : X.mg (bltN b) = none) (ns : (a :: es).all noStar = true) (ha : PA X (a :: es) (tL X.K C Wx (evL S l))) :
    PE X (.Call (.Name (bltN b) p) (a :: es) [] pos) (tFr X.K C Wx (evE S (.blt b l))) := by
  have ns' : noStar a = true ∧ es.all noStar = true := by simpa using ns
  have base : PE X (.Call (.Name (bltN b) p) (a :: es) [] pos) (tCB (rBlt X.K C b) (tL X.K C Wx (evL S l))) := by
    have hr := call_bltF (C := C) hc hu hg b
    have hv := bltN_boot b
    cases b
    all_goals first
      | exact pe_callB hr gl hm hv ha (bltN_nm _).1 (bltN_nm _).2 (star_cons ns'.1) (star_any ns'.2)
      | exact pe_callTy hr gl hm hv ha (bltN_nm _).1 (bltN_nm _).2 (star_cons ns'.1) (star_any ns'.2)
  refine PE_imp base fun σ H Q _ q => ?_
  obtain ⟨W, fr, st, R, q⟩ := q
  simp only [evE] at q
  refine ⟨W, fr, st, R, q.bind.imp (fun ps st1 h1 W1 H1 vs x o R1 D => ?_) fun _ _ _ z => z⟩
  obtain ⟨z, hz, g⟩ := h1.of
  have pl : plainV z = true := by
    generalize ps.map (Rm.deref fr st1) = qs at hz
    revert hz
    cases b <;> unfold bltF <;> intro hz <;> (split at hz) <;> first
      | (cases hz; rfl)
      | cases hz
      | (simp only [Option.map_eq_some_iff] at hz; obtain ⟨_, _, rfl⟩ := hz; rfl)
      | (split at hz <;> first | (cases hz; rfl) | cases hz)
  exact ⟨W1, _, z, Rel.derefs R1 D, hz, (EndFr.shift g x o).gv R1 pl⟩
end
end Rm
set_option Elab.async false
set_option linter.all false
set_option maxHeartbeats 4000000
/-! Rule by rule, the fourth part: isinstance, index, count, what is walked, comprehensions. -/
namespace Rm
open PySem PySem.Spec L2
section
variable {C : Nat → Addr} {Wx : WX} {S : Sig} {X : Cx} {n : Nat}

/-! ### isinstance -/
def tyV (C : Nat → Addr) : Ty → V
  | .int => .ty "int" | .bool => .ty "bool" | .str => .ty "str" | .tuple => .ty "tuple" | .list => .ty "list"
  | .cls c => .ref (C c)
def tyN (T : Gtab) : Ty → Str
  | .int => "int" | .bool => "bool" | .str => "str" | .tuple => "tuple" | .list => "list"
  | .cls c => T.cl.getD c ""
def tyS : Ty → String
  | .int => "int" | .bool => "bool" | .str => "str" | .tuple => "tuple" | .list => "list"
  | .cls _ => ""
def pvS : PV → Option String
  | .non => some "NoneType" | .bl _ => some "bool" | .int _ => some "int" | .str _ => some "str" | .seq true _ => some "tuple" | .seq false _ => some "list"
  | _ => none
theorem pvS_ty {W : Wd} {H : Hp} {v : V} {p : PV} {T : String} (d : DenB X.K C W H v p) (h : pvS p = some T) : TyX X.K H v (.type T) := by
  cases p <;> simp only [pvS, reduceCtorEq] at h
  case non => cases h; obtain rfl := d.non; exact .base .non
  case bl b => cases h; obtain rfl := d.bl; exact .base (.bl b)
  case int b => cases h; obtain rfl := d.int; exact .base (.int b)
  case str b => cases h; obtain rfl := d.str; exact .base (.str b)
  case seq t xs =>
    cases t <;> simp only [pvS] at h <;> cases h
    · obtain ⟨a, us, rfl, hs, _⟩ := d.list
      exact .base (.lst hs)
    · obtain ⟨a, us, rfl, hs, _⟩ := d.tup
      rcases hs with (hs | ⟨o, hs⟩) | ⟨o, its, m, hk, hc, _⟩
      · exact .base (.tup hs)
      · exact .fTuple hs
      · exact .kTuple hk hc
theorem isi_table : ∀ T ∈ (["NoneType", "bool", "int", "str", "list", "tuple"] : List String), ∀ U ∈ (["int", "bool", "str", "tuple", "list"] : List String), kitB T U = some (T == U || (T == "bool" && U == "int")) := by decide +kernel
theorem pvS_in {p : PV} {T : String} (h : pvS p = some T) : T ∈ (["NoneType", "bool", "int", "str", "list", "tuple"] : List String) := by
  unfold pvS at h
  split at h <;> (cases h <;> simp)
/-- the classes are what they should be -/
def ClsAll (K : PySem.W.Frag) (C : Nat → Addr) (S : Sig) (m : Nat) : Prop := ∀ c, c < m → ∃ l, S.anc[c]? = some l ∧ ClsOk K C c l m
theorem call_isP {m : Nat} (hC : ClsAll X.K C S m) (ha : S.anc.length = m) : CallR X (.builtin "isinstance") (fun xs H Q => ∃ W v p t k, xs = [v, tyV C t] ∧ DenB X.K C W H v p ∧ (∀ c, t = .cls c → c < m) ∧ isiF S p t = some k ∧ Q (.bl k) H) := by
  intro pins s σ H xs us Q I r h
  obtain ⟨W, v, p, t, k, rfl, d, ht, hk, q⟩ := h
  cases hp : pvS p with
  | some T =>
    have ty := pvS_ty d hp
    have inT := pvS_in hp
    cases t with
    | cls c =>
      obtain ⟨l, h1, h2⟩ := hC c (ht c rfl)
      refine call_isi pins s σ H _ us Q I r ⟨v, _, _, _, k, rfl, .own _, ty, ?_, q⟩
      rw [h2.no T inT]
      cases p <;> simp only [isiF, pvS, reduceCtorEq] at hk hp <;> first | exact hk.symm ▸ rfl | skip
    | int =>
      refine call_isi pins s σ H _ us Q I r ⟨v, _, _, _, k, rfl, .ty _, ty, kit_ty (by rw [isi_table T inT "int" (by decide), ← hk]; unfold pvS at hp; split at hp <;> first | (cases hp; rfl) | cases hp), q⟩
    | bool =>
      refine call_isi pins s σ H _ us Q I r ⟨v, _, _, _, k, rfl, .ty _, ty, kit_ty (by rw [isi_table T inT "bool" (by decide), ← hk]; unfold pvS at hp; split at hp <;> first | (cases hp; rfl) | cases hp), q⟩
    | str =>
      refine call_isi pins s σ H _ us Q I r ⟨v, _, _, _, k, rfl, .ty _, ty, kit_ty (by rw [isi_table T inT "str" (by decide), ← hk]; unfold pvS at hp; split at hp <;> first | (cases hp; rfl) | cases hp), q⟩
    | tuple =>
      refine call_isi pins s σ H _ us Q I r ⟨v, _, _, _, k, rfl, .ty _, ty, kit_ty (by rw [isi_table T inT "tuple" (by decide), ← hk]; unfold pvS at hp; split at hp <;> first | (cases hp; rfl) | cases hp), q⟩
    | list =>
      refine call_isi pins s σ H _ us Q I r ⟨v, _, _, _, k, rfl, .ty _, ty, kit_ty (by rw [isi_table T inT "list" (by decide), ← hk]; unfold pvS at hp; split at hp <;> first | (cases hp; rfl) | cases hp), q⟩
  | none =>
    cases p <;> simp only [pvS, reduceCtorEq] at hp
    case seq tt xs => cases tt <;> simp only [reduceCtorEq] at hp
    case ref => cases t <;> simp only [isiF, reduceCtorEq] at hk
    case loc => cases t <;> simp only [isiF, reduceCtorEq] at hk
    case scr => cases t <;> simp only [isiF, reduceCtorEq] at hk
    case exc c pp =>
      rcases d with d | ⟨_, _, _, e, _⟩
      · cases d with
        | exc e =>
          rename_i a
          obtain ⟨u1, u2, rfl, r1, r2⟩ := vals2 r
          cases r1
          obtain ⟨oe, vs, h1, h2, h3, h4⟩ := (I.hok a _ e).1
          have J : PySem.W.InstAt s.heap a oe (C c) none := by
            obtain ⟨oc, od, oda, osl⟩ := oe
            dsimp only at h2 h3 h4
            subst h2 h3 h4
            exact ⟨h1, rfl, rfl, trivial⟩
          have hcl : ∃ l, S.anc[c]? = some l ∧ ClsOk X.K C c l m := by
            have : c < m := by
              cases t with
              | cls dd =>
                simp only [isiF, Option.map_eq_some_iff] at hk
                obtain ⟨l, hl, _⟩ := hk
                rw [← ha]
                exact (List.getElem?_eq_some_iff.mp hl).1
              | _ =>
                simp only [isiF, Option.map_eq_some_iff] at hk
                obtain ⟨l, hl, _⟩ := hk
                rw [← ha]
                exact (List.getElem?_eq_some_iff.mp hl).1
            exact hC c this
          obtain ⟨l, hl, cl⟩ := hcl
          have E := cl.ex
          have fin : ∀ u : Value, u2 = u → PySem.W.kitOne X.K (.ref (C c)) u = some k → wpAny (model X.prog X.w) X.A (call (.builtin "isinstance") [.ref a, u2]) (EP X pins σ Q) X.xe s := fun u e1 e2 => by
            subst e1
            exact PySem.W.kia_one (PySem.W.handS_kitx_exc E.hg E.hk E.hs E.hd E.ha E.hn E.ht E.hm) I.kIn J e2 (fun z => nomatch z) fun tk => ⟨.bl k, H, I.kept (t' := tk) fun _ _ z => z, rfl, q⟩
          cases t with
          | cls dd =>
            simp only [isiF, Option.map_eq_some_iff] at hk
            obtain ⟨l', hl', hk⟩ := hk
            rw [hl] at hl'
            cases hl'
            exact fin _ r2 (by rw [cl.sub dd (ht dd rfl), hk])
          | int =>
            simp only [isiF, Option.map_eq_some_iff] at hk
            obtain ⟨l', hl', hk⟩ := hk
            exact fin _ r2 (by rw [cl.noB "int" (by decide), ← hk])
          | bool =>
            simp only [isiF, Option.map_eq_some_iff] at hk
            obtain ⟨l', hl', hk⟩ := hk
            exact fin _ r2 (by rw [cl.noB "bool" (by decide), ← hk])
          | str =>
            simp only [isiF, Option.map_eq_some_iff] at hk
            obtain ⟨l', hl', hk⟩ := hk
            exact fin _ r2 (by rw [cl.noB "str" (by decide), ← hk])
          | tuple =>
            simp only [isiF, Option.map_eq_some_iff] at hk
            obtain ⟨l', hl', hk⟩ := hk
            exact fin _ r2 (by rw [cl.noB "tuple" (by decide), ← hk])
          | list =>
            simp only [isiF, Option.map_eq_some_iff] at hk
            obtain ⟨l', hl', hk⟩ := hk
            exact fin _ r2 (by rw [cl.noB "list" (by decide), ← hk])
      · cases e
theorem boot_isi : bootBuiltins "isinstance" = some (.builtin "isinstance") := by decide +kernel
theorem boot_ty : ∀ t : Ty, (∀ c, t ≠ .cls c) → bootBuiltins (Str.ofString (tyS t)) = some (.type (tyS t)) := by
  intro t h
  cases t <;> first | exact absurd rfl (h _) | decide +kernel
/-- a class's name as an argument -/
theorem pe_ty {T : Gtab} {t : Ty} {tp : Pos} (gl : Gl X (tyN T t)) (hdb : (tyN T t == ("__debug__" : Str)) = false) (hnn : tyN T t ≠ "__name__") (hb : (∀ c, t ≠ .cls c) → X.mg (tyN T t) = none) (hc : ∀ c, t = .cls c → X.mg (tyN T t) = some (.ref (C c))) :
    PE X (.Name (tyN T t) tp) (tC (tyV C t)) := by
  cases t with
  | cls c => exact pe_glob gl (hc c rfl) rfl hdb
  | int => exact pe_bltn gl (hb fun _ e => nomatch e) (boot_ty .int fun _ e => nomatch e) rfl hnn hdb
  | bool => exact pe_bltn gl (hb fun _ e => nomatch e) (boot_ty .bool fun _ e => nomatch e) rfl hnn hdb
  | str => exact pe_bltn gl (hb fun _ e => nomatch e) (boot_ty .str fun _ e => nomatch e) rfl hnn hdb
  | tuple => exact pe_bltn gl (hb fun _ e => nomatch e) (boot_ty .tuple fun _ e => nomatch e) rfl hnn hdb
  | list => exact pe_bltn gl (hb fun _ e => nomatch e) (boot_ty .list fun _ e => nomatch e) rfl hnn hdb
theorem pe_risi {m : Nat} {T : Gtab} {t : Ty} {a : Expr} {p tp pos : Pos} {e : E} (hC : ClsAll X.K C S m) (hl : S.anc.length = m) (ht : ∀ c, t = .cls c → c < m) (gi : Gl X "isinstance") (hm : X.mg "isinstance" = none) (ns : noStar a = true)
    (hty : PE X (.Name (tyN T t) tp) (tC (tyV C t))) (ha : PE X a (tE X.K C Wx (evE S e))) :
    PE X (.Call (.Name "isinstance" p) [a, .Name (tyN T t) tp] [] pos) (tE X.K C Wx (evE S (.isi e [t]))) := by
  refine PE_imp (pe_callB (call_isP (C := C) (S := S) hC hl) gi hm boot_isi (pa_cons ha (pa_cons hty pa_nil) (star_cons ns)) (by decide) (by decide) (star_cons ns)) fun σ H Q _ q => ?_
  rw [evE_isi] at q
  obtain ⟨W, fr, st, R, q⟩ := tE_then q
  refine ⟨W, fr, st, R, q.imp (fun p st1 k W1 H1 v x o R1 D => ?_) fun _ _ _ z => z⟩
  obtain ⟨W4, fr4, st4, px, R4, Dx, hp⟩ := k W1 H1 v x o R1 D
  obtain ⟨z, hz, g⟩ := Post.of (Post.bind hp)
  have hz' : isiF S (Rm.deref fr4 st4 px) t = some z := by
    simp only [isiAny] at hz
    split at hz <;> cases hz <;> assumption
  exact ⟨W4, v, _, t, z, rfl, R4.deref Dx, ht, hz', fun _ => end_bl R4 g⟩
end
end Rm
set_option Elab.async false
set_option linter.all false
set_option maxHeartbeats 4000000
/-! Rule by rule, the fifth part: index, count, what is walked, comprehensions. -/
namespace Rm
open PySem PySem.Spec L2
section
variable {C : Nat → Addr} {Wx : WX} {S : Sig} {X : Cx} {n : Nat}

/-! ### index, count -/
theorem Dp_list {W : Wd} {H : Hp} {v : V} {xs : List PV} (d : DenB X.K C W H v (.seq false xs)) (h : areDat xs = true) : ∃ a us, v = .ref a ∧ SqL X.K H a us ∧ Dp X.K H (.ref a) (.list (dats xs)) := by
  obtain ⟨a, us, rfl, hs, ds⟩ := d.list
  exact ⟨a, us, rfl, SqL.of hs, .lst (SqL.of hs) (ds.dp h)⟩
theorem mt_cntD (hu : X.A.units + 65 < cLine) : MtR X "list.count" (fun x xs H Q => ∃ (a : Addr) (y : V) (d : PyData) (ds : List PyData), x = V.ref a ∧ xs = [y] ∧ Dp X.K H (V.ref a) (.list ds) ∧ Dp X.K H y d ∧
    SeqAt.shaped (.list ds) = true ∧ SeqAt.shaped d = true ∧ Q (.int ((ds.countP fun z => PyData.eqv z d : Nat) : Int)) H) := by
  intro pins s σ H x xs v us Q I rx rxs h
  obtain ⟨a, y, d, ds, rfl, rfl, hl, hy, sl, sd, q⟩ := h
  cases rx
  obtain ⟨uy, rfl, ry⟩ := rxs.one
  obtain ⟨bs, rd⟩ := Dp.reads I d y uy hy ry
  have lay : PyData.canLayAll0 ds = true := SeqAt.canLay_of_shaped sl
  have room : X.A.units + 1 + min (PyData.depthAll ds) d.depth < cLine := PyProof.Rows.room_in_shaped sd hu
  cases hl with
  | lst hs ha =>
    obtain ⟨its, rv, ⟨⟨cl, di, da, sls⟩, m, ho, hc, hdn, hdt⟩, hlen⟩ := I.list hs
    dsimp only at hc hdt
    subst hc hdt
    obtain ⟨as, h4⟩ := Dp.readsAll I ds _ its ha rv
    have hmap : its.map (SeqAt.readOf s.heap) = ds := SeqAt.readsAll_map ds its as lay h4
    refine call_meets PySem.F.slot_list_count ⟨_, ho, rfl⟩ PySem.F.entry_list_count (PySem.F.args_list_count_2 _ _)
      (SeqAt.list_countAt a its.toArray m di sls uy (fun u => PyData.eqv (SeqAt.readOf s.heap u) d)) ⟨ho, SeqAt.items_eqAt (vs := its.toArray) (show ReadsAll s.heap its.toArray.toList ds as from h4) rd lay (SeqAt.canLay_of_shaped sd) room, ?_⟩
    have ec : its.toArray.toList.countP (fun u => PyData.eqv (SeqAt.readOf s.heap u) d) = ds.countP fun z => PyData.eqv z d := by
      rw [← hmap, List.countP_map]
      rfl
    refine ⟨.int ((ds.countP fun z => PyData.eqv z d : Nat) : Int), H, I.tok _, ⟨s.toks, ?_⟩, q⟩
    rw [ec]
theorem lst_dat {xs : List PV} (h : isDat (.seq false xs) = true) : areDat xs = true := by simpa [isDat] using h
theorem tyV_list {W : Wd} {H : Hp} {v : V} {xs : List PV} (d : DenB X.K C W H v (.seq false xs)) : L2.tyV X.K "list" v H := by
  obtain ⟨a, us, rfl, hs, _⟩ := d.list
  exact .inl ⟨rfl, us, SqL.of hs⟩
theorem lstF_eq {p : PV} {xs : List PV} (h : lstF p = some xs) : p = .seq false xs := by
  cases p <;> simp only [lstF, reduceCtorEq] at h
  rename_i t ys
  cases t <;> simp only [reduceCtorEq] at h
  cases h
  rfl
/-- a method of a list with one argument -/
theorem tBM_of {k : PV → PV → Option PV} {r : V → List V → Hp → VK → Prop} {e f : E} (hr : ∀ W H v u p q z Q, DenB X.K C W H v p → DenB X.K C W H u q → k p q = some z → (∃ i : Int, z = .int i ∧ (Q (.int i) H)) → r v [u] H Q) (hk : ∀ p q z, k p q = some z → ∃ i : Int, z = .int i) {σ : St} {H : Hp} {Q : VK}
    (q : tE X.K C Wx (fun fr st => (evE S e fr st).bind fun v st => (Out.of (lstF (Rm.deref fr st v)) st).bind fun _ st => (evE S f fr st).bind fun y st => .of (k (Rm.deref fr st v) (Rm.deref fr st y)) st) σ H Q) :
    tBM X.K "list" r (tE X.K C Wx (evE S e)) (tCons (tE X.K C Wx (evE S f)) tNil) σ H Q := by
  obtain ⟨W, fr, st, R, q⟩ := q
  refine ⟨W, fr, st, R, q.bind.imp (fun p st1 h1 W1 H1 v x o R1 D => ?_) fun _ _ _ z => z⟩
  obtain ⟨xs, hx, h2⟩ := Post.of (Post.bind h1)
  have dd := R1.deref D
  rw [lstF_eq hx] at dd
  refine ⟨tyV_list dd, W1, fr, st1, R1, (Post.bind h2).imp (fun p2 st2 h3 W2 H2 u x2 o2 R2 D2 => ?_) fun _ _ _ z => EndX.shift z x o⟩
  obtain ⟨z, hz, g⟩ := Post.of h3
  obtain ⟨i, rfl⟩ := hk _ _ _ hz
  refine hr W2 H2 v u _ _ _ Q (R2.deref (DenM.ext R1.s.sep x2 o2 D)) (R2.deref D2) hz ⟨i, rfl, ?_⟩
  exact g W2 H2 _ (x.trans x2) (o2.trans o) R2 (.inl (.int i))
theorem okL {xs : List PV} (h : okEq (.seq false xs) = true) : areDat xs = true ∧ SeqAt.shaped (.list (dats xs)) = true := by
  have := okEq_shaped h
  refine ⟨lst_dat this.1, ?_⟩
  simpa only [dat] using this.2
theorem pe_ridx {a b : Expr} {apos cpos : Pos} {e f : E} (hu : X.A.units + 65 < cLine) (ns : noStar b = true) (hln : (apos.endLine == cpos.line) = true) (hbase : ∀ x, attributeBase a "index" X.env x = x) (ha : PE X a (tE X.K C Wx (evE S e))) (hb : PE X b (tE X.K C Wx (evE S f))) :
    PE X (.Call (.Attribute a "index" apos) [b] [] cpos) (tE X.K C Wx (evE S (.idx e f))) := by
  refine PE_imp (pe_bm PySem.F.plainAttrs_list PySem.F.slot_list_index PySem.F.type_list_index (mt_indexD hu) ha (pa_cons hb pa_nil (star_cons ns)) (hbase _) (by rw [star_cons ns]; rfl) hln (star_cons ns)) fun σ H Q _ q => ?_
  rw [evE_idx] at q
  refine tBM_of (k := fun p q => idxM q p) (S := S) (C := C) (Wx := Wx) ?_ ?_ (e := e) (f := f) ?_
  · rintro W H v u p q z Q dv du hz ⟨i, rfl, h⟩
    cases p <;> simp only [idxM, reduceCtorEq] at hz
    rename_i t xs
    cases t <;> simp only [idxM, reduceCtorEq] at hz
    simp only [Option.map_eq_some_iff, PV.int.injEq] at hz
    obtain ⟨j, hj, e1⟩ := hz
    unfold idxOfF at hj
    split at hj
    · rename_i hok
      obtain ⟨h1, h2⟩ := okL hok.2
      obtain ⟨h3, h4⟩ := okEq_shaped hok.1
      obtain ⟨a', us, rfl, hs, dl⟩ := Dp_list dv h1
      obtain ⟨g1, g2, g3⟩ := List.findIdx?_eq_some_iff_getElem.mp hj
      refine ⟨a', u, _, _, j, (dats xs)[j], rfl, rfl, dl, du.dp h3, h2, h4, List.getElem?_eq_getElem g1, g2, fun m z' hm hz' => ?_, by subst e1; exact h⟩
      obtain ⟨hm2, rfl⟩ := List.getElem?_eq_some_iff.mp hz'
      simpa using g3 m hm
    · cases hj
  · intro p q z hz
    cases p <;> simp only [idxM, reduceCtorEq] at hz
    rename_i t xs
    cases t <;> simp only [idxM, reduceCtorEq] at hz
    simp only [Option.map_eq_some_iff] at hz
    obtain ⟨j, _, rfl⟩ := hz
    exact ⟨_, rfl⟩
  · obtain ⟨W, fr, st, R, q⟩ := q
    exact ⟨W, fr, st, R, q.imp (fun p st' h W' H' v x o R' D _ => h W' H' v x o R' D) fun _ _ _ z => z⟩
theorem pe_rcnt {a b : Expr} {apos cpos : Pos} {e f : E} (hu : X.A.units + 65 < cLine) (ns : noStar b = true) (hln : (apos.endLine == cpos.line) = true) (hbase : ∀ x, attributeBase a "count" X.env x = x) (ha : PE X a (tE X.K C Wx (evE S e))) (hb : PE X b (tE X.K C Wx (evE S f))) :
    PE X (.Call (.Attribute a "count" apos) [b] [] cpos) (tE X.K C Wx (evE S (.cnt e f))) := by
  refine PE_imp (pe_bm PySem.F.plainAttrs_list PySem.F.slot_list_count PySem.F.type_list_count (mt_cntD hu) ha (pa_cons hb pa_nil (star_cons ns)) (hbase _) (by rw [star_cons ns]; rfl) hln (star_cons ns)) fun σ H Q _ q => ?_
  rw [evE_cnt] at q
  refine tBM_of (k := fun p q => cntM q p) (S := S) (C := C) (Wx := Wx) ?_ ?_ (e := e) (f := f) ?_
  · rintro W H v u p q z Q dv du hz ⟨i, rfl, h⟩
    cases p <;> simp only [cntM, reduceCtorEq] at hz
    rename_i t xs
    cases t <;> simp only [cntM, reduceCtorEq] at hz
    simp only [Option.map_eq_some_iff, PV.int.injEq] at hz
    obtain ⟨j, hj, e1⟩ := hz
    unfold cntF at hj
    split at hj
    · rename_i hok
      cases hj
      obtain ⟨h1, h2⟩ := okL hok.2
      obtain ⟨h3, h4⟩ := okEq_shaped hok.1
      obtain ⟨a', us, rfl, hs, dl⟩ := Dp_list dv h1
      exact ⟨a', u, _, _, rfl, rfl, dl, du.dp h3, h2, h4, by rw [e1]; exact h⟩
    · cases hj
  · intro p q z hz
    cases p <;> simp only [cntM, reduceCtorEq] at hz
    rename_i t xs
    cases t <;> simp only [cntM, reduceCtorEq] at hz
    simp only [Option.map_eq_some_iff] at hz
    obtain ⟨j, _, rfl⟩ := hz
    exact ⟨_, rfl⟩
  · obtain ⟨W, fr, st, R, q⟩ := q
    exact ⟨W, fr, st, R, q.imp (fun p st' h W' H' v x o R' D _ => h W' H' v x o R' D) fun _ _ _ z => z⟩
theorem base_ok {o : Expr} {nm : Str} (h : (match o with | .Call _ _ _ _ => false | _ => true) = true) (env : Env) : ∀ x, attributeBase o nm env x = x := by
  intro x
  cases o <;> first | rfl | cases h

/-! ### what is walked -/
theorem PI_imp {tg it : Expr} {t t' : TI} (h : PI X tg it t) (k : ∀ σ H R, Sz H → t' σ H R → t σ H (fun J H' => Sz H' → R J H')) : PI X tg it t' := by
  refine ⟨fun pins s σ H R I hw => ?_⟩
  exact thn (h.run pins s σ H _ I (k σ H R (Inv.sz' I) hw)) fun u s1 h1 => thn h1 fun v s2 ⟨i1, fp, tn, J, H', e, I1, tt, t0, tf, q⟩ => ⟨i1, fp, tn, J, H', e, I1, tt, t0, tf, q (Inv.sz' I1)⟩
/-- a list or a tuple -/
theorem pi_any {tg l : Expr} {tl : TE} (hl : PE X l tl) : PI X tg l (fun σ H R => tl σ H fun x H1 => ∃ a, x = .ref a ∧ ((∃ ys, SqL X.K H1 a ys ∧ R (Itl X.K a) H1) ∨ ∃ ys, SqT X.K H1 a ys ∧ (ys.length ≤ sizeLine → R (Itt X.K a) H1))) := by
  refine ⟨fun pins s σ H R I h => thn (hl.run pins s σ H _ I h) fun v s1 ⟨x, H1, I1, rv, a, ex, q⟩ => ?_⟩
  subst ex
  cases rv
  rcases q with ⟨ys, hq, q⟩ | ⟨ys, hq, q⟩
  · obtain ⟨its, _, pl, _⟩ := I1.list hq
    exact wpAny_pyIter_list pl.isList ⟨_, [s1.heap.objs.size], _, _, H1, rfl, I1.kept (t' := s1.toks) fun b o e => Heap.get?_push_of_some _ e, turn_list a _, ⟨_, Heap.get?_push_size _ rfl, rfl, rfl⟩,
      fun b hb => by obtain rfl := List.mem_singleton.mp hb; exact I1.fpOk (Nat.le_refl _) (I1.hok.fresh (Nat.le_refl _)), q⟩
  · obtain ⟨its, _, pl, hz⟩ := I1.tuple hq
    exact wpAny_pyIter_tuple (show s1.heap.IsTuple a its.toArray from pl) ⟨_, [s1.heap.objs.size], _, _, H1, rfl, I1.kept (t' := s1.toks) fun b o e => Heap.get?_push_of_some _ e, turn_tuple a _, ⟨_, Heap.get?_push_size _ rfl, rfl, rfl⟩,
      fun b hb => by obtain rfl := List.mem_singleton.mp hb; exact I1.fpOk (Nat.le_refl _) (I1.hok.fresh (Nat.le_refl _)), q hz⟩
theorem evI_S (a : E) : evI S (.itS a) = fun fr st => (evE S a fr st).bind fun x st => .of (seqF x) st := by funext fr st; simp only [evI]
theorem evI_R (l : E) : evI S (.itR l) = fun fr st => (evL S l fr st).bind fun xs st => .of (rngF xs) st := by funext fr st; simp only [evI]
theorem evI_E (a : E) : evI S (.itE a) = fun fr st => (evE S a fr st).bind fun x st => .of ((lstF x).map (enumF 0)) st := by funext fr st; simp only [evI]
theorem pi_rS {tg a : Expr} {e : E} (ha : PE X a (tE X.K C Wx (evE S e))) : PI X tg a (tI X.K C Wx (evI S (.itS e))) := by
  refine PI_imp (pi_any ha) fun σ H Q _ q => ?_
  rw [evI_S] at q
  obtain ⟨W, fr, st, R, q⟩ := q
  refine ⟨W, fr, st, R, q.bind.imp (fun p st1 h1 W1 H1 v x o R1 D => ?_) fun _ _ _ z => z⟩
  obtain ⟨xs, hx, h2⟩ := Post.of h1
  cases p <;> simp only [seqF, reduceCtorEq] at hx
  cases hx
  rename_i t
  have d := D.den rfl
  cases d with
  | tup s ds => exact ⟨_, rfl, .inr ⟨_, s, fun hz _ => h2 W1 H1 _ x o R1 (.tup R1.s.sep R1.s.sz s hz ds)⟩⟩
  | lst f s ds => exact ⟨_, rfl, .inl ⟨_, SqL.of s, fun _ => h2 W1 H1 _ x o R1 (.list R1.s.sep R1.s.sz f s ds)⟩⟩
theorem pi_rE {a : Expr} {elts : List Expr} {kk : Nat} {tpos p pos : Pos} {e : E} (hg : Gl X "enumerate") (hm : X.mg "enumerate" = none) (ns : noStar a = true) (ha : PE X a (tE X.K C Wx (evE S e))) : PI X (.Tuple elts kk tpos) (.Call (.Name "enumerate" p) [a] [] pos) (tI X.K C Wx (evI S (.itE e))) := by
  refine PI_imp (pi_enum hg hm (pa_cons ha pa_nil (star_cons ns)) (star_cons ns)) fun σ H Q _ q => ?_
  rw [evI_E] at q
  obtain ⟨W, fr, st, R, q⟩ := q
  refine ⟨W, fr, st, R, q.bind.imp (fun p st1 h1 W1 H1 v x o R1 D => ?_) fun _ _ _ z => z⟩
  obtain ⟨ys, hy, h2⟩ := Post.of h1
  simp only [Option.map_eq_some_iff] at hy
  obtain ⟨xs, hx, rfl⟩ := hy
  obtain rfl := lstF_eq hx
  have d := D.den rfl
  cases d with
  | lst f s ds => exact ⟨_, _, rfl, SqL.of s, fun _ => h2 W1 H1 _ x o R1 (.enum R1.s.sep R1.s.sz f s ds)⟩
theorem DensM.one {W : Wd} {H : Hp} {vs : List V} {i : Int} (d : DensM X.K C W H vs [.int i]) : vs = [.int i] := by
  cases d with
  | cons d t =>
    cases t
    have := DenM.den d rfl
    cases this
    rfl
theorem DensM.two {W : Wd} {H : Hp} {vs : List V} {i j : Int} (d : DensM X.K C W H vs [.int i, .int j]) : vs = [.int i, .int j] := by
  cases d with
  | cons d t =>
    obtain rfl := DensM.one t
    have := DenM.den d rfl
    cases this
    rfl
theorem inR_ok {i : Int} (h : inRange i = true) : -(2 ^ 62) ≤ i ∧ i < 2 ^ 62 := by
  unfold inRange at h
  exact of_decide_eq_true h
theorem evL_len : ∀ {l : E} {fr : Frm} {st : Sto} {xs : List PV} {st' : Sto} {k : Nat}, (∀ fr st xs st', evL S l fr st = .ok xs st' → xs.length = k) → evL S l fr st = .ok xs st' → xs.length = k := fun h e => h _ _ _ _ e
theorem pi_rR1 {tg a : Expr} {p pos : Pos} {l : E} (hg : Gl X "range") (hm : X.mg "range" = none) (ns : noStar a = true) (ha : PA X [a] (tL X.K C Wx (evL S l))) (hl : ∀ fr st xs st', evL S l fr st = .ok xs st' → xs.length = 1) : PI X tg (.Call (.Name "range" p) [a] [] pos) (tI X.K C Wx (evI S (.itR l))) := by
  refine PI_imp (pi_range1 hg hm ha (star_cons ns)) fun σ H Q _ q => ?_
  rw [evI_R] at q
  obtain ⟨W, fr, st, R, q⟩ := q
  refine ⟨W, fr, st, R, ?_⟩
  have q1 := q.bind
  cases hh : evL S l fr st with
  | bad => rw [hh] at q1; exact q1.elim
  | exc c p st1 => rw [hh] at q1; exact q1
  | ok ps st1 =>
    rw [hh] at q1
    intro W1 H1 vs x o R1 D
    obtain ⟨ys, hy, h2⟩ := Post.of q1
    have hlen := hl _ _ _ _ hh
    unfold rngF at hy
    split at hy
    · rename_i j
      split at hy
      · rename_i hok
        cases hy
        obtain rfl := D.one
        have := inR_ok hok.1
        exact ⟨j, rfl, this.1, this.2, fun _ => h2 W1 H1 _ x o R1 (.range (fits_iff.mp hok.2))⟩
      · cases hy
    · simp at hlen
    · cases hy
theorem pi_rR2 {tg a b : Expr} {p pos : Pos} {l : E} (hg : Gl X "range") (hm : X.mg "range" = none) (ns : noStar a = true) (ns2 : noStar b = true) (ha : PA X [a, b] (tL X.K C Wx (evL S l))) (hl : ∀ fr st xs st', evL S l fr st = .ok xs st' → xs.length = 2) : PI X tg (.Call (.Name "range" p) [a, b] [] pos) (tI X.K C Wx (evI S (.itR l))) := by
  refine PI_imp (pi_range2 hg hm ha (by rw [star_cons ns, star_cons ns2]; rfl) (star_cons ns2)) fun σ H Q _ q => ?_
  rw [evI_R] at q
  obtain ⟨W, fr, st, R, q⟩ := q
  refine ⟨W, fr, st, R, ?_⟩
  have q1 := q.bind
  cases hh : evL S l fr st with
  | bad => rw [hh] at q1; exact q1.elim
  | exc c p st1 => rw [hh] at q1; exact q1
  | ok ps st1 =>
    rw [hh] at q1
    intro W1 H1 vs x o R1 D
    obtain ⟨ys, hy, h2⟩ := Post.of q1
    have hlen := hl _ _ _ _ hh
    unfold rngF at hy
    split at hy
    · simp at hlen
    · rename_i i j
      split at hy
      · rename_i hok
        cases hy
        obtain rfl := D.two
        have h3 := inR_ok hok.1
        have h4 := inR_ok hok.2.1
        exact ⟨i, j, rfl, ⟨h3.1, h3.2, h4.1, h4.2⟩, fun _ => h2 W1 H1 _ x o R1 (.range (fits_iff.mp hok.2.2))⟩
      · cases hy
    · cases hy
end
end Rm
set_option Elab.async false
set_option linter.all false
set_option maxHeartbeats 4000000
/-! Rule by rule, the sixth part: comprehensions. -/
namespace Rm
open PySem PySem.Spec L2
section
variable {K : PySem.W.Frag} {C : Nat → Addr} {W W' W2 : Wd} {H H' H2 : Hp} {D : Addr} {u u' : HO}

/-- a place outside the world is written -/
structure Off (W : Wd) (H : Hp) (D : Addr) : Prop where
  f : ¬ W.F D
  r : ∀ n, W.r n ≠ some D
  o : ∀ i, W.o i ≠ some D
  l : ∃ us, H D = some (.lst us)
theorem Ext.upd (x : Ext W H W' H') (hn : H D = none) : Ext W H W' (upd H' D u) where
  kp := fun b o e n => by
    rw [upd_ne (ne_of_none e hn)]
    exact x.kp b o e n
  th := fun b o e => by
    rw [upd_ne (ne_of_none e hn)]
    exact x.th b o e
  F := x.F
  Fn := x.Fn
  r := x.r
  rn := x.rn
theorem Off.keep (h : Off W H D) {us : List V} : ∀ a o, H a = some o → (W.F a ∨ ∀ us, o ≠ .lst us) → (L2.upd H D (.lst us)) a = some o := fun a o e q => by
  by_cases z : a = D
  · subst z
    obtain ⟨ws, hw⟩ := h.l
    rw [hw] at e
    cases e
    rcases q with q | q
    · exact absurd q h.f
    · exact absurd rfl (q ws)
  · rw [upd_ne z]
    exact e
theorem Off.den (h : Off W H D) {us : List V} {v : V} {p : PV} (d : Den K C W H v p) : Den K C W (L2.upd H D (.lst us)) v p := d.mono (fun _ z => z) (fun _ _ z => z) h.keep
theorem Off.dens (h : Off W H D) {us : List V} {v : List V} {p : List PV} (d : Dens K C W H v p) : Dens K C W (L2.upd H D (.lst us)) v p := d.mono (fun _ z => z) (fun _ _ z => z) h.keep
theorem Sz.upd {us : List V} (z : Sz H) (h : us.length ≤ sizeLine) : Sz (L2.upd H D (.lst us)) := fun b ws q => by
  by_cases e : b = D
  · subst e
    rcases q with (q | ⟨o, q⟩) | (q | ⟨o, q⟩) <;> rw [upd_same] at q <;> cases q
    exact h
  · rcases q with (q | ⟨o, q⟩) | (q | ⟨o, q⟩) <;> rw [upd_ne e] at q
    · exact z b ws (.inl (.inl q))
    · exact z b ws (.inl (.inr ⟨o, q⟩))
    · exact z b ws (.inr (.inl q))
    · exact z b ws (.inr (.inr ⟨o, q⟩))
theorem Off.sep (h : Off W H D) (S : Sep W H) {us : List V} : Sep W (L2.upd H D (.lst us)) where
  rl := fun n b e => by
    obtain ⟨ws, z⟩ := S.rl n b e
    exact ⟨ws, by rw [upd_ne (fun q => h.r n (by rw [← q]; exact e))]; exact z⟩
  ol := fun n b e => by
    obtain ⟨ws, z⟩ := S.ol n b e
    exact ⟨ws, by rw [upd_ne (fun q => h.o n (by rw [← q]; exact e))]; exact z⟩
  Fs := fun b e => by
    obtain ⟨ws, z⟩ := S.Fs b e
    exact ⟨ws, by rw [upd_ne (fun q => h.f (by rw [← q]; exact e))]; exact z⟩
  Fr := S.Fr
  Fo := S.Fo
  ro := S.ro
  rr := S.rr
  oo := S.oo
theorem Off.rel (h : Off W H D) {st : Sto} (R : RelS K C W H st) {us : List V} (hz : us.length ≤ sizeLine) : RelS K C W (L2.upd H D (.lst us)) st :=
  ⟨h.sep R.sep, R.sz.upd hz, fun n xs e => by
    obtain ⟨b, ws, h1, h2, h3⟩ := R.str n xs e
    exact ⟨b, ws, h1, by rw [upd_ne (fun q => h.r n (by rw [← q]; exact h1))]; exact h2, h.dens h3⟩, R.rn⟩
theorem Off.ext (h : Off W H D) (x : Ext W H W' H') (ho : ∀ i, W'.o i ≠ some D) : Off W' H' D := by
  obtain ⟨us, e⟩ := h.l
  refine ⟨fun z => ?_, fun n z => ?_, ho, us, x.kp D _ e h.r⟩
  · rcases x.Fn D z with q | q
    · exact h.f q
    · rw [e] at q
      cases q
  · rcases x.rn n D z with q | q
    · exact h.r n q
    · rw [e] at q
      cases q
theorem Off.withO (h : Off W H D) {o : Nat → Option Addr} (ho : ∀ i, o i ≠ some D) : Off (W.withO o) H D := ⟨h.f, h.r, ho, h.l⟩
theorem wipe_out {σ : St} {j : Nat} : ∀ {vs : List Nat}, j ∉ vs → (wipe σ vs)[j]? = σ[j]?
  | [], _ => rfl
  | v :: vs, h => by
    simp only [List.mem_cons, not_or] at h
    unfold wipe
    rw [List.getElem?_set_ne (Ne.symm h.1)]
    exact wipe_out h.2
theorem wipeF_length {fr : Frm} : ∀ vs : List Nat, (wipeF fr vs).length = fr.length
  | [] => rfl
  | v :: vs => by unfold wipeF; rw [List.length_set, wipeF_length vs]
/-- the frame that wipes its own slots -/
theorem ExtW {W W1 : Wd} {H H1 : Hp} {o : Nat → Option Addr} (x : Ext W H (W1.withO o) H1) : Ext W H W1 H1 := ⟨x.kp, x.th, x.F, x.Fn, x.r, x.rn⟩
theorem ExtO {W W1 : Wd} {H H1 : Hp} {o : Nat → Option Addr} (x : Ext (W.withO o) H W1 H1) : Ext W H W1 H1 := ⟨x.kp, x.th, x.F, x.Fn, x.r, x.rn⟩

/-- what holds ahead of each turn -/
structure Turned (K : PySem.W.Frag) (C : Nat → Addr) (els : Frm → Sto → Out PV) (cnd : Frm → Sto → Out Bool) (tg : T) (fr : Frm) (fin : Out (List PV)) (W1 : Wd) (H1 : Hp) (D : Addr) (xs : List PV) (i : Nat) (H : Hp) : Prop where
  ex : ∃ W st acc us, Ext W1 H1 W H ∧ W.o = W1.o ∧ RelS K C W H st ∧ Off W H D ∧ H D = some (.lst us) ∧ Dens K C W H us acc ∧ us.length ≤ i ∧ compRun els cnd tg fr (xs.drop i) acc st = fin
end
section
variable {C : Nat → Addr} {Wx : WX} {S : Sig} {X : Cx} {n : Nat}

/-- the loop of a comprehension -/
theorem comp_loop {K : PySem.W.Frag} {els : Frm → Sto → Out PV} {cnd : Frm → Sto → Out Bool} {tg : T} {vs : List Nat} {σ : St} {W W1 : Wd} {H H1 : Hp} {fr : Frm} {st1 : Sto} {xs ys : List PV} {stE : Sto} {J : It} {D : Addr} {Q : VK}
    (hsub : ∀ i ∈ slotsT tg, i ∈ vs) (hrun : compRun els cnd tg (wipeF fr vs) xs [] st1 = .ok ys stE) (hx : Ext W H W1 H1) (ho : W1.o = W.o) (R1 : Rel K C W1 H1 σ fr st1) (wk : WalkOk K C W1 H1 J xs) (hD : H1 D = none)
    (hq : EndFr K C W H σ fr stE (.seq false ys) Q) :
    ∃ V : Nat → Nat → Hp → Prop, (∃ m, V 0 m (upd H1 D (.lst []))) ∧ ∀ i m H, V i m H →
      (J.stop i H ∧ Q (.ref D) H) ∨ (J.go i H ∧ ∃ Nx : Hp → Prop, (∀ H', Nx H' → ∃ m', m' < m ∧ V (i + 1) m' H') ∧ ∀ x H', J.yld i H x H' → gOf K tg x (wipe σ vs) H' fun σ2 H2 => wipe σ2 vs = wipe σ vs ∧ tT K C (fun _ _ _ _ => False) cnd σ2 H2 fun b H3 =>
        if b = true then tE K C (fun _ _ _ _ => False) els σ2 H3 fun y H4 => ∃ acc, H4 D = some (.lst acc) ∧ acc.length < sizeLine ∧ Nx (upd H4 D (.lst (acc ++ [y]))) else Nx H3) := by
  obtain ⟨G, Y, w, hG, hY⟩ := wk.ex
  obtain ⟨f1, f2, f3⟩ := R1.s.sep.free hD
  have off0 : Off W1 (upd H1 D (.lst [])) D := ⟨f1, f2, f3, [], upd_same⟩
  refine lc_it w (Turned K C els cnd tg (wipeF fr vs) (.ok ys stE) W1 H1 D xs) ?_ ?_ ?_ ?_
  · refine ⟨W1, st1, [], [], Ext.new hD, rfl, ?_, off0, upd_same, .nil, Nat.zero_le _, hrun⟩
    exact ⟨R1.s.sep.new hD, R1.s.sz.upd (Nat.zero_le _), fun m zs e => by
      obtain ⟨b, us, h1, h2, h3⟩ := R1.s.str m zs e
      exact ⟨b, us, h1, by rw [upd_ne (ne_of_none h2 hD)]; exact h2, h3.ext R1.s.sep (Ext.new hD)⟩, R1.s.rn⟩
  · rintro i H2 _ ⟨W2, st2, acc, us, x2, o2, _⟩
    exact hG W2 H2 (x2.toS o2)
  · rintro i x H2 H3 hi ⟨W2, st2, acc, us, x2, o2, R2, of2, hd2, D2, len2, run2⟩ y
    obtain ⟨p, hp, dp, x3, s3, z3⟩ := hY W2 H2 i x H3 (x2.toS o2) R2.sep R2.sz y
    have hdrop : xs.drop i = p :: xs.drop (i + 1) := by
      obtain ⟨hl, rfl⟩ := List.getElem?_eq_some_iff.mp hp
      exact List.drop_eq_getElem_cons hl
    rw [hdrop] at run2
    unfold compRun at run2
    cases ha : asg tg p (wipeF fr vs) with
    | none => rw [ha] at run2; cases run2
    | some fr1 =>
      rw [ha] at run2
      dsimp only at run2
      have R3 : RelS K C W2 H3 st2 := R2.all x3 s3 z3
      have e3 : Ext W2 H2 W2 H3 := Ext.all x3
      have R3' : Rel K C W2 H3 σ fr st2 := (R1.ext x2 o2 R2).ext e3 rfl R3
      have of3 : Off W2 H3 D := ⟨of2.f, of2.r, of2.o, us, x3 _ _ hd2⟩
      have hd3 : H3 D = some (.lst us) := x3 _ _ hd2
      refine asg_ok ha dp (R3'.slots.wipe vs) fun σ2 sl l2 k2 => ⟨?_, ?_⟩
      · refine wipe_eq (l2.trans (wipe_length ..)) fun j hj => ?_
        rw [k2 j (fun z => hj (hsub j z)), wipe_out hj]
      have Ri := sl.rel R3
      refine ⟨_, fr1, st2, Ri, ?_⟩
      have oo : ∀ {i}, onlyO W2 fr1 i ≠ some D := fun e => of2.o _ (onlyO_le e).1
      -- the test
      cases hc : cnd fr1 st2 with
      | bad => rw [hc] at run2; cases run2
      | exc c p st3 => rw [hc] at run2; cases run2
      | ok b st3 =>
        rw [hc] at run2
        intro W4 H4 x4 o4 R4
        have x4b := x4.back
        have R4b : RelS K C (W4.withO W2.o) H4 st3 := RelS.back R3.sep x4 R4.s
        have of4 : Off (W4.withO W2.o) H4 D := of3.ext x4b of2.o
        have hd4 : H4 D = some (.lst us) := x4.kp D _ hd3 of2.r
        have x14 : Ext W1 H1 (W4.withO W2.o) H4 := (x2.trans e3).trans x4b
        have D4 : Dens K C (W4.withO W2.o) H4 us acc := (D2.ext R2.sep e3).ext R3.sep x4b
        cases b with
        | false =>
          simp only [Bool.false_eq_true, if_false]
          exact ⟨_, st3, acc, us, x14, o2, R4b, of4, hd4, D4, Nat.le_succ_of_le len2, run2⟩
        | true =>
          simp only [if_true]
          refine ⟨W4, fr1, st3, R4, ?_⟩
          dsimp only at run2
          cases he : els fr1 st3 with
          | bad => rw [he] at run2; cases run2
          | exc c p st5 => rw [he] at run2; cases run2
          | ok z st5 =>
            rw [he] at run2
            dsimp only at run2
            split at run2
            · rename_i hk
              intro W5 H5 v x5 o5 R5 dz
              have x5b : Ext (W4.withO W2.o) H4 (W5.withO W2.o) H5 := ExtO (o := W4.o) ⟨x5.kp, x5.th, x5.F, x5.Fn, x5.r, x5.rn⟩
              have R5b : RelS K C (W5.withO W2.o) H5 st5 := RelS.back (W := W4.withO W2.o) (o := W4.o) R4b.sep x5 R5.s
              have of5 : Off (W5.withO W2.o) H5 D := of4.ext x5b of2.o
              have hd5 : H5 D = some (.lst us) := x5.kp D _ hd4 of4.r
              have hlt : us.length < sizeLine := Nat.lt_of_le_of_lt len2 (Nat.lt_of_lt_of_le hi wk.sz)
              have D5 : Dens K C (W5.withO W2.o) H5 us acc := D4.ext R4b.sep x5b
              have hl1 : (us ++ [v]).length = us.length + 1 := by simp
              refine ⟨us, hd5, hlt, W5.withO W2.o, st5, acc ++ [z], us ++ [v], (x14.trans x5b).upd hD, o2, of5.rel R5b (by omega), ?_, upd_same, ?_, by omega, run2⟩
              · exact ⟨of5.f, of5.r, of5.o, _, upd_same⟩
              · exact of5.dens (D5.app (.cons ((dz.den hk).withO) .nil))
            · cases run2
  · rintro H2 ⟨W2, st2, acc, us, x2, o2, R2, of2, hd2, D2, len2, run2⟩
    rw [List.drop_length] at run2
    unfold compRun at run2
    cases run2
    exact hq.2 W2 H2 D us _ rfl (hx.trans x2) (o2.trans ho) (R1.ext x2 o2 R2) hd2 D2 of2.f of2.r of2.o (hx.free hD)
end
end Rm
set_option Elab.async false
set_option linter.all false
set_option maxHeartbeats 8000000
/-! Which term stands for which expression; a term's promise is the machine's. -/
namespace Rm
open PySem PySem.Spec L2
section
variable {C : Nat → Addr} {Wx : WX} {S : Sig} {X : Cx} {n : Nat}
abbrev W0 : WX := fun _ _ _ _ => False
theorem evE_comp (vs : List Nat) (e : E) (t : T) (i c : E) : evE S (.comp vs e t i c) = fun fr st => (evI S i fr st).bind fun xs st => (compRun (evE S e) (evC S c) t (wipeF fr vs) xs [] st).bind fun ys st => .ok (.seq false ys) st := by funext fr st; simp only [evE, evC]
theorem compRun_out {els : Frm → Sto → Out PV} {cnd : Frm → Sto → Out Bool} {tg : T} {fr : Frm} : ∀ {xs acc : List PV} {st : Sto}, (∃ ys st', compRun els cnd tg fr xs acc st = .ok ys st') ∨ compRun els cnd tg fr xs acc st = .bad
  | [], acc, st => .inl ⟨acc, st, by simp only [compRun]⟩
  | x :: xs, acc, st => by
    unfold compRun
    split
    · exact .inr rfl
    · split
      · split
        · split
          · exact compRun_out
          · exact .inr rfl
        · exact .inr rfl
      · exact compRun_out
      · exact .inr rfl
/-- the reading of a comprehension -/
theorem comp_t {i : E} {e c : E} {t : T} {vs : List Nat} {σ : St} {H : Hp} {Q : VK} (hsub : ∀ j ∈ slotsT t, j ∈ vs) (q : tFr X.K C Wx (evE S (.comp vs e t i c)) σ H Q) :
    tLc (tI X.K C Wx (evI S i)) (gOf X.K t) (tT X.K C W0 (evC S c)) (tE X.K C W0 (evE S e)) vs σ H Q := by
  rw [evE_comp] at q
  obtain ⟨W, fr, st, R, q⟩ := q
  refine ⟨W, fr, st, R, q.bind.imp (fun xs st1 h1 W1 H1 J x o R1 wk D hD => ?_) fun _ _ _ z => z⟩
  rcases compRun_out (els := evE S e) (cnd := evC S c) (tg := t) (fr := wipeF fr vs) (xs := xs) (acc := []) (st := st1) with ⟨ys, stE, hr⟩ | hr
  · rw [hr] at h1
    exact comp_loop hsub hr x o R1 wk hD h1
  · rw [hr] at h1
    exact h1.elim
theorem pe_rcomp {elt tg iter : Expr} {ifs : List Expr} {scope : Scope} {own : List (Str × Nat)} {pos : Pos} {t : T} {e i c : E} (hc : X.calm = true) (hN : X.N.Nodup) (hi : PI X tg iter (tI X.K C Wx (evI S i))) (ok : BlkOk X.N X.env.scope scope own)
    (hg : ∀ (s : Shared) (H : Hp) (D : Addr) (cl : List (Str × Addr)) (fp : List Addr), PG (X.blk s H scope (compEnvC scope cl D X.env) fp) tg (gOf X.K t)) (ht : ∀ (s : Shared) (H : Hp) (D : Addr) (cl : List (Str × Addr)) (fp : List Addr), PTs (X.blk s H scope (compEnvC scope cl D X.env) fp) ifs (tT X.K C W0 (evC S c)))
    (he : ∀ (s : Shared) (H : Hp) (D : Addr) (cl : List (Str × Addr)) (fp : List Addr), PE (X.blk s H scope (compEnvC scope cl D X.env) fp) elt (tE X.K C W0 (evE S e))) (hs : ∀ x, foldedSetIterable iter X.env x = pure x) (hsub : ∀ j ∈ slotsT t, j ∈ own.map (·.2)) :
    PE X (.ListComp elt [⟨tg, iter, ifs, 0⟩] scope pos) (tFr X.K C Wx (evE S (.comp (own.map (·.2)) e t i c))) :=
  PE_imp (pe_lc hc hN hi ok hg ht he hs) fun σ H Q _ q => by
    have := comp_t hsub q
    obtain ⟨W, fr, st, R, q⟩ := q
    exact comp_t hsub ⟨W, fr, st, R, q.imp (fun z st' e => ⟨fun W' H' v hp x o R' D _ => e.1 W' H' v hp x o R' D, fun W' H' a us xs hp x o R' e1 D n1 n2 n3 hn _ => e.2 W' H' a us xs hp x o R' e1 D n1 n2 n3 hn⟩) fun _ _ _ z => z⟩
theorem pt_rite {c a b : Expr} {pos : Pos} {e f g : E} (hc : PT X c (tT X.K C Wx (evT S e))) (ha : PT X a (tT X.K C Wx (evT S f))) (hb : PT X b (tT X.K C Wx (evT S g))) : PT X (.IfExp c a b pos) (tT X.K C Wx (evT S (.ite e f g))) := by
  refine ⟨fun pins s σ H Q I q => ?_⟩
  refine PyProof.Rows.isTrue_IfExp (thn (hc.run pins s σ H (fun k H1 => if k = true then tT X.K C Wx (evT S f) σ H1 Q else tT X.K C Wx (evT S g) σ H1 Q) I ?_) fun k s1 ⟨H1, I1, h1⟩ => ?_)
  · obtain ⟨W, fr, st, R, q⟩ := q
    refine ⟨W, fr, st, R, ?_⟩
    unfold evT at q
    simp only [evE] at q
    have q1 := q.bind.bind
    show Post ((evE S e fr st).bind _) _ _
    cases hh : evE S e fr st with
    | bad => rw [hh] at q1; exact q1
    | exc c p st1 => rw [hh] at q1; exact q1
    | ok p st1 =>
      rw [hh] at q1
      obtain ⟨k, hk, h2⟩ := Post.of (Post.bind (show Post ((Out.of (truF (Rm.deref fr st1 p)) st1).bind _) _ _ from q1))
      simp only [Out.bind_ok]
      rw [hk]
      intro W1 H1 x o R1
      have key : ∀ w : E, Post (evE S w fr st1) (fun a st => Post (Out.of (truF (Rm.deref fr st a)) st) (fun b st' => EndT X.K C W H σ fr st' b Q) (EndX X.K C Wx W H σ fr)) (EndX X.K C Wx W H σ fr) → tT X.K C Wx (evT S w) σ H1 Q := fun w h => by
        refine ⟨W1, fr, st1, R1, ?_⟩
        unfold evT
        cases hw : evE S w fr st1 with
        | bad => rw [hw] at h; exact h
        | exc c p st2 => rw [hw] at h; exact EndX.shift h x o
        | ok p st2 =>
          rw [hw] at h
          simp only [Out.bind_ok]
          exact (show Post (Out.of (truF (Rm.deref fr st2 p)) st2) _ _ from h).imp (fun _ _ z => EndT.shift z x o) fun _ _ _ z => EndX.shift z x o
      cases k
      · simp only [Bool.false_eq_true, if_false] at h2 ⊢
        exact key g h2
      · simp only [if_true] at h2 ⊢
        exact key f h2
  · cases k
    · simp only [Bool.false_eq_true, if_false] at h1 ⊢
      exact hb.run pins s1 σ H1 Q I1 h1
    · simp only [if_true] at h1 ⊢
      exact ha.run pins s1 σ H1 Q I1 h1
end
end Rm
set_option Elab.async false
set_option linter.all false
set_option maxHeartbeats 16000000
/-! The look: a term stands for an expression. -/
namespace Rm
open PySem PySem.Spec L2

def glN (c : Ctx) (x : Str) : Bool := isGl c.sc x && plainN x
def notCall : Expr → Bool
  | .Call _ _ _ _ => false
  | _ => true
def Ctx.blk (c : Ctx) (scope : Scope) : Ctx := { c with sc := relS scope c.sc, fn := fun x => scope.names.lookup x == some .cell }
def ownOf (c : Ctx) (vs : List Nat) : List (Str × Nat) := vs.map fun i => (c.N.getD i "", i)
theorem ownOf_snd (c : Ctx) (vs : List Nat) : (ownOf c vs).map (·.2) = vs := by
  unfold ownOf
  rw [List.map_map]
  exact List.map_id' vs
def tyOk (c : Ctx) : Ty → Bool
  | .cls k => decide (k < c.T.cl.length)
  | _ => true
def isNil : E → Bool
  | .nil => true
  | _ => false
mutual
def mE : E → Expr → Ctx → Bool
  | .var i, .Name x _, c => decide (c.N[i]? = some x) && isVis c.sc x && plainN x
  | .glb k, .Name x _, c => glN c x && (match c.T.gl[k]? with | some (nm, _) => decide (nm = x) | none => false)
  | .cst p, .Constant k _ _, _ => constOk k p
  | .neg a, .UnaryOp .USub x _, c => mE a x c
  | .not a, .UnaryOp .Not x _, c => mE a x c
  | .bin op a b, .BinOp x o y _, c => decide (opA op = o) && mE a x c && mE b y c
  | .cmp op a b, .Compare x [o] [y] _, c => decide (copA op = o) && noSet y && mE a x c && mE b y c
  | .chn o1 o2 a b d, .Compare x [p1, p2] [y, z] _, c => decide (copA o1 = p1) && decide (copA o2 = p2) && noSet y && noSet z && mE a x c && mE b y c && mE d z c
  | .and l, .BoolOp .And es _, c => mA l es c
  | .or l, .BoolOp .Or es _, c => mA l es c
  | .ite d a b, .IfExp x y z _, c => mE d x c && mE a y c && mE b z c
  | .tup l, .Tuple es _ _, c => mL l es c
  | .lst l, .List es _, c => mL l es c
  | .sub a b, .Subscript x y _, c => noSlice y && mE a x c && mE b y c
  | .slc a lo hi, .Subscript x (.Slice l h none _) _, c => mE a x c && (match l with | none => isNil lo | some y => mE lo y c) && (match h with | none => isNil hi | some y => mE hi y c)
  | .rev a, .Subscript x (.Slice none none (some (.UnaryOp .USub (.Constant (.int 1) _ _) _)) _) _, c => mE a x c
  | .call j l k, .Call (.Name x _) as ks _, c => glN c x && (match c.T.fs[j]? with | some (nm, np, kn) => decide (nm = x) && decide (as.length = np) && decide (kwNames ks = kn) | none => false) && as.all noStar && (ks.all fun k => k.arg.isSome) && (!as.isEmpty || ks.isEmpty) && mL l as c && mK k ks c
  | .blt b l, .Call (.Name x _) as [] _, c => decide (bltN b = x) && glN c x && !as.isEmpty && as.all noStar && mL l as c
  | .isi a [t], .Call (.Name x _) [y, .Name z _] [] _, c => decide (x = "isinstance") && glN c x && decide (z = tyN c.T t) && glN c z && tyOk c t && noStar y && mE a y c
  | .idx a b, .Call (.Attribute o nm ap) [y] [] cp, c => decide (nm = "index") && (ap.endLine == cp.line) && notCall o && noStar y && mE a o c && mE b y c
  | .cnt a b, .Call (.Attribute o nm ap) [y] [] cp, c => decide (nm = "count") && (ap.endLine == cp.line) && notCall o && noStar y && mE a o c && mE b y c
  | .comp vs e t i d, .ListComp x [⟨tg, it, ifs, k⟩] scope _, c => decide (k = 0) && blkC c.N c.sc scope (ownOf c vs) && mT (c.blk scope) tg t && (slotsT t).all (fun j => decide (j ∈ vs)) && noSet it && mI i tg it c && mE e x (c.blk scope) &&
      (match ifs with | [] => isNil d | [y] => mE d y (c.blk scope) | _ => false)
  | _, _, _ => false
def mA : E → List Expr → Ctx → Bool
  | .cons a l, x :: r, c => mE a x c && (match r with | [] => isNil l | y :: r => mA l (y :: r) c)
  | _, _, _ => false
def mL : E → List Expr → Ctx → Bool
  | .nil, [], _ => true
  | .cons a l, x :: r, c => noStar x && mE a x c && mL l r c
  | _, _, _ => false
def mK : E → List Keyword → Ctx → Bool
  | .nil, [], _ => true
  | .cons a l, ⟨_, x, _⟩ :: r, c => mE a x c && mK l r c
  | _, _, _ => false
def mI : E → Expr → Expr → Ctx → Bool
  | .itS a, _, x, c => mE a x c
  | .itE a, .Tuple _ _ _, .Call (.Name f _) [x] [] _, c => decide (f = "enumerate") && glN c f && noStar x && mE a x c
  | .itR l, _, .Call (.Name f _) [x] [] _, c => decide (f = "range") && glN c f && mL l [x] c
  | .itR l, _, .Call (.Name f _) [x, y] [] _, c => decide (f = "range") && glN c f && mL l [x, y] c
  | _, _, _, _ => false
end
end Rm
set_option Elab.async false
set_option linter.all false
set_option maxHeartbeats 16000000
/-! The look is right. -/
namespace Rm
open PySem PySem.Spec L2
section
variable {C : Nat → Addr} {S : Sig} {n : Nat}
theorem Out.bind_eq {α β : Type} {o : Out α} {k : α → Sto → Out β} {y : β} {st : Sto} (h : o.bind k = .ok y st) : ∃ a st1, o = .ok a st1 ∧ k a st1 = .ok y st := by
  cases o with
  | ok a st1 => exact ⟨a, st1, rfl, h⟩
  | exc c p st1 => cases h
  | bad => cases h
theorem mL_len : ∀ (l : E) {es : List Expr} {c : Ctx} {fr : Frm} {st : Sto} {xs : List PV} {st' : Sto}, mL l es c = true → evL S l fr st = .ok xs st' → xs.length = es.length
  | .nil, [], _, _, _, _, _, _, e => by
    simp only [evL, Out.ok.injEq] at e
    rw [← e.1]
    rfl
  | .cons a l, x :: r, c, fr, st, xs, st', h, e => by
    simp only [mL, Bool.and_eq_true] at h
    simp only [evL] at e
    obtain ⟨y, st1, _, e⟩ := Out.bind_eq e
    obtain ⟨ys, st2, e2, e⟩ := Out.bind_eq e
    cases e
    exact congrArg Nat.succ (mL_len l h.2 e2)
theorem mK_len : ∀ (l : E) {es : List Keyword} {c : Ctx} {fr : Frm} {st : Sto} {xs : List PV} {st' : Sto}, mK l es c = true → evL S l fr st = .ok xs st' → xs.length = es.length
  | .nil, [], _, _, _, _, _, _, e => by
    simp only [evL, Out.ok.injEq] at e
    rw [← e.1]
    rfl
  | .cons a l, ⟨_, x, _⟩ :: r, c, fr, st, xs, st', h, e => by
    simp only [mK, Bool.and_eq_true] at h
    simp only [evL] at e
    obtain ⟨y, st1, _, e⟩ := Out.bind_eq e
    obtain ⟨ys, st2, e2, e⟩ := Out.bind_eq e
    cases e
    exact congrArg Nat.succ (mK_len l h.2 e2)
section
variable {c : Ctx} {Wx : WX} {X : Cx}
theorem Fit.hu (F : Fit c C S n Wx X) : X.A.units + 65 < cLine := by
  have := F.rm.un
  omega
theorem Fit.gl (F : Fit c C S n Wx X) {x : Str} (h : glN c x = true) : Gl X x ∧ (x == ("__debug__" : Str)) = false ∧ x ≠ "__name__" := by
  unfold glN at h
  simp only [Bool.and_eq_true] at h
  have := plainN_ok h.2
  exact ⟨isGl_ok F.sc h.1, this.1, this.2.2⟩
theorem Fit.blk (F : Fit c C S n Wx X) (scope : Scope) (s : Shared) (H : Hp) (D : Addr) (cl : List (Str × Addr)) (fp : List Addr) : Fit (c.blk scope) C S n W0 (X.blk s H scope (compEnvC scope cl D X.env) fp) where
  N := F.N
  sc := by
    show relS scope X.env.scope = relS scope c.sc
    rw [F.sc]
  fn := fun x h => h
  calm := F.calm
  nd := F.nd
  tk := fun _ _ x => by
    obtain ⟨_, _, _, _, _, _, _, _, _, _, _, _, _, _, _, _, z⟩ := x
    exact z.elim
  gd := F.gd
  rm := F.rm
  G := F.G
theorem Fit.clsA (F : Fit c C S n Wx X) : ClsAll X.K C S c.T.cl.length := fun k hk => (F.G.cls k c.T.cl[k] (by simp [hk])).2
theorem Fit.pt (F : Fit c C S n Wx X) {tg : Expr} {t : T} (h : mT c tg t = true) : PG X tg (gOf X.K t) := pg_mT F.N F.sc F.fn F.calm F.nd h
end
theorem isNil_ok {e : E} (h : isNil e = true) : e = .nil := by
  cases e <;> first | rfl | cases h
theorem mE_nil {a : Expr} {c : Ctx} (h : mE .nil a c = true) : False := by
  cases a <;> cases h
theorem evC_some {e : E} (h : e ≠ .nil) : evC S e = evT S e := by
  funext fr st
  cases e <;> first | exact absurd rfl h | rfl
theorem noSet_f {it : Expr} (h : noSet it = true) (env : Env) : ∀ x, foldedSetIterable it env x = pure x := by
  intro x
  cases it <;> first | rfl | cases h
theorem mL_nil {l : E} {c : Ctx} (h : mL l [] c = true) : l = .nil := by
  cases l <;> first | rfl | cases h
theorem mK_nil {l : E} {c : Ctx} (h : mK l [] c = true) : l = .nil := by
  cases l <;> first | rfl | cases h
mutual
theorem mE_ok : ∀ (e : E) {a : Expr} {c : Ctx} {Wx : WX} {X : Cx}, Fit c C S n Wx X → mE e a c = true → PE X a (tE X.K C Wx (evE S e)) ∧ PT X a (tT X.K C Wx (evT S e))
  | .var i, a, c, Wx, X, F, h => by
    cases a <;> first | exact nomatch (show false = true from h) | skip
    simp only [mE, Bool.and_eq_true, decide_eq_true_eq] at h
    have pl := plainN_ok h.2
    have p := pe_rv (C := C) (Wx := Wx) (S := S) (X := X) (pos := ‹Pos›) (by rw [F.N]; exact h.1.1) (by rw [F.sc]; exact isVis_ok h.1.2) pl.1 pl.2.1
    exact ⟨p, PT_plain p fun _ => rfl⟩
  | .glb k, a, c, Wx, X, F, h => by
    cases a <;> first | exact nomatch (show false = true from h) | skip
    simp only [mE, Bool.and_eq_true] at h
    obtain ⟨h1, h2⟩ := h
    split at h2
    · rename_i nm p e
      have e' := of_decide_eq_true h2
      subst e'
      have g := F.gl h1
      obtain ⟨q1, u, v, q2, q3, q4⟩ := F.G.gls _ _ _ e
      have p := pe_rg (C := C) (Wx := Wx) (S := S) (X := X) (pos := ‹Pos›) g.1 g.2.1 q2 q3 q1 q4
      exact ⟨p, PT_plain p fun _ => rfl⟩
    · cases h2
  | .cst p, a, c, Wx, X, F, h => by
    cases a <;> first | exact nomatch (show false = true from h) | skip
    simp only [mE] at h
    exact ⟨pe_rc h, PT_plain (pe_rc h) fun _ => rfl⟩
  | .neg a, x, c, Wx, X, F, h => by
    cases x <;> first | exact nomatch (show false = true from h) | skip
    rename_i o x pos
    cases o <;> first | exact nomatch (show false = true from h) | skip
    simp only [mE] at h
    have p := pe_rneg (pos := pos) (mE_ok a F h).1
    exact ⟨p, PT_plain p fun _ => rfl⟩
  | .not a, x, c, Wx, X, F, h => by
    cases x <;> first | exact nomatch (show false = true from h) | skip
    rename_i o x pos
    cases o <;> first | exact nomatch (show false = true from h) | skip
    simp only [mE] at h
    exact ⟨pe_rnot (mE_ok a F h).1, pt_rnot (mE_ok a F h).2⟩
  | .bin op a b, x, c, Wx, X, F, h => by
    cases x <;> first | exact nomatch (show false = true from h) | skip
    simp only [mE, Bool.and_eq_true, decide_eq_true_eq] at h
    obtain ⟨⟨rfl, h1⟩, h2⟩ := h
    have p := PE_fresh (pe_rbin (pos := ‹Pos›) (op := op) (mE_ok a F h1).1 (mE_ok b F h2).1)
    exact ⟨p, PT_plain p fun _ => rfl⟩
  | .cmp op a b, x, c, Wx, X, F, h => by
    cases x <;> first | exact nomatch (show false = true from h) | skip
    rename_i x ops ys pos
    rcases ops with _ | ⟨o, _ | ⟨o2, ops⟩⟩ <;> rcases ys with _ | ⟨y, _ | ⟨y2, ys⟩⟩ <;> first | exact nomatch (show false = true from h) | skip
    simp only [mE, Bool.and_eq_true, decide_eq_true_eq] at h
    obtain ⟨⟨⟨rfl, h0⟩, h1⟩, h2⟩ := h
    exact pe_rcmp F.hu h0 (mE_ok a F h1).1 (mE_ok b F h2).1
  | .chn o1 o2 a b d, x, c, Wx, X, F, h => by
    cases x <;> first | exact nomatch (show false = true from h) | skip
    rename_i x ops ys pos
    rcases ops with _ | ⟨o, _ | ⟨p2, _ | ⟨o3, ops⟩⟩⟩ <;> rcases ys with _ | ⟨y, _ | ⟨y2, _ | ⟨y3, ys⟩⟩⟩ <;> first | exact nomatch (show false = true from h) | skip
    simp only [mE, Bool.and_eq_true, decide_eq_true_eq] at h
    obtain ⟨⟨⟨⟨⟨⟨rfl, rfl⟩, h0⟩, h00⟩, h1⟩, h2⟩, h3⟩ := h
    exact pe_rchn F.hu h0 h00 (mE_ok a F h1).1 (mE_ok b F h2).1 (mE_ok d F h3).1
  | .and l, x, c, Wx, X, F, h => by
    cases x <;> first | exact nomatch (show false = true from h) | skip
    rename_i o es pos
    cases o <;> first | exact nomatch (show false = true from h) | skip
    simp only [mE] at h
    have p := mAnd_ok l F h pos
    have e1 : evE S (.and l) = evA S l := by funext fr st; simp only [evE]
    unfold evT
    rw [e1]
    exact ⟨p.1, ⟨fun pins s σ H Q I q => p.2.run _ pins s σ H Q I q⟩⟩
  | .or l, x, c, Wx, X, F, h => by
    cases x <;> first | exact nomatch (show false = true from h) | skip
    rename_i o es pos
    cases o <;> first | exact nomatch (show false = true from h) | skip
    simp only [mE] at h
    have p := mOr_ok l F h pos
    have e1 : evE S (.or l) = evR S l := by funext fr st; simp only [evE]
    unfold evT
    rw [e1]
    exact ⟨p.1, ⟨fun pins s σ H Q I q => p.2.run _ pins s σ H Q I q⟩⟩
  | .ite d a b, x, c, Wx, X, F, h => by
    cases x <;> first | exact nomatch (show false = true from h) | skip
    simp only [mE, Bool.and_eq_true] at h
    obtain ⟨⟨h0, h1⟩, h2⟩ := h
    exact ⟨pe_rite (mE_ok d F h0).2 (mE_ok a F h1).1 (mE_ok b F h2).1, pt_rite (mE_ok d F h0).2 (mE_ok a F h1).2 (mE_ok b F h2).2⟩
  | .tup l, x, c, Wx, X, F, h => by
    cases x <;> first | exact nomatch (show false = true from h) | skip
    simp only [mE] at h
    have p := pe_rtup (k := ‹Nat›) (pos := ‹Pos›) (mL_ok l F h)
    exact ⟨p, PT_plain p fun _ => rfl⟩
  | .lst l, x, c, Wx, X, F, h => by
    cases x <;> first | exact nomatch (show false = true from h) | skip
    simp only [mE] at h
    have p := PE_fresh (pe_rlst (pos := ‹Pos›) (mL_ok l F h))
    exact ⟨p, PT_plain p fun _ => rfl⟩
  | .sub a b, x, c, Wx, X, F, h => by
    cases x <;> first | exact nomatch (show false = true from h) | skip
    rename_i x y pos
    have h : (noSlice y && mE a x c && mE b y c) = true := h
    simp only [Bool.and_eq_true] at h
    obtain ⟨⟨h0, h1⟩, h2⟩ := h
    have p := pe_rsub (pos := pos) h0 (mE_ok a F h1).1 (mE_ok b F h2).1
    exact ⟨p, PT_plain p fun _ => rfl⟩
  | .slc a lo hi, x, c, Wx, X, F, h => by
    cases x <;> first | exact nomatch (show false = true from h) | skip
    rename_i x y pos
    cases y <;> first | exact nomatch (show false = true from h) | skip
    rename_i l hh st p2
    cases st <;> first | exact nomatch (show false = true from h) | skip
    simp only [mE, Bool.and_eq_true] at h
    obtain ⟨⟨h0, h1⟩, h2⟩ := h
    have q1 : PO X l (tO X.K C Wx (evO S lo)) := by
      cases l with
      | none =>
        obtain rfl := isNil_ok h1
        exact po_rnone
      | some y => exact po_rsome (fun z => by subst z; exact mE_nil h1) (mE_ok lo F h1).1
    have q2 : PO X hh (tO X.K C Wx (evO S hi)) := by
      cases hh with
      | none =>
        obtain rfl := isNil_ok h2
        exact po_rnone
      | some y => exact po_rsome (fun z => by subst z; exact mE_nil h2) (mE_ok hi F h2).1
    have p := PE_fresh (pe_rslc (p2 := p2) (pos := pos) (mE_ok a F h0).1 q1 q2)
    exact ⟨p, PT_plain p fun _ => rfl⟩
  | .rev a, x, c, Wx, X, F, h => by
    cases x <;> first | exact nomatch (show false = true from h) | skip
    rename_i x y pos
    cases y <;> first | exact nomatch (show false = true from h) | skip
    rename_i lo hi st p3
    cases lo <;> first | exact nomatch (show false = true from h) | skip
    cases hi <;> first | exact nomatch (show false = true from h) | skip
    cases st <;> first | exact nomatch (show false = true from h) | skip
    rename_i st
    cases st <;> first | exact nomatch (show false = true from h) | skip
    rename_i o st p2
    cases o <;> first | exact nomatch (show false = true from h) | skip
    cases st <;> first | exact nomatch (show false = true from h) | skip
    rename_i k kk p1
    cases k <;> first | exact nomatch (show false = true from h) | skip
    rename_i i
    rcases i with (_ | _ | i) | i <;> first | exact nomatch (show false = true from h) | skip
    have h : mE a x c = true := h
    have p := PE_fresh (pe_rrev (k := kk) (p1 := p1) (p2 := p2) (p3 := p3) (pos := pos) (mE_ok a F h).1)
    exact ⟨p, PT_plain p fun _ => rfl⟩
  | .call j l k, x, c, Wx, X, F, h => by
    cases x <;> first | exact nomatch (show false = true from h) | skip
    rename_i f as ks pos
    cases f <;> first | exact nomatch (show false = true from h) | skip
    rename_i x p
    simp only [mE, Bool.and_eq_true] at h
    obtain ⟨⟨⟨⟨⟨⟨h1, h2⟩, h3⟩, h4⟩, h7⟩, h5⟩, h6⟩ := h
    split at h2
    · rename_i nm np kn e
      simp only [Bool.and_eq_true, decide_eq_true_eq] at h2
      obtain ⟨⟨rfl, e2⟩, e3⟩ := h2
      obtain ⟨f, q1, q2, q3⟩ := F.G.fns _ _ _ _ e
      have g := F.gl h1
      subst e3
      have p := pe_callG (p := p) (pos := pos) (l := l) (k := k) F.rm F.gd F.tk g.1 g.2.1 q1 q2 q3 (mL_ok l F h5) (mK_ok k F h6) h3 h4 e2 (fun _ _ _ _ z => mL_len l h5 z) (fun _ _ _ _ z => mK_len k h6 z) (fun z => by subst z; exact ⟨mL_nil h5, by simpa using h7⟩) (fun z => by subst z; exact mK_nil h6)
      exact ⟨p, PT_plain p fun _ => rfl⟩
    · cases h2
  | .blt b l, x, c, Wx, X, F, h => by
    cases x <;> first | exact nomatch (show false = true from h) | skip
    rename_i f as ks pos
    cases f <;> first | exact nomatch (show false = true from h) | skip
    rename_i x p
    cases ks <;> first | exact nomatch (show false = true from h) | skip
    simp only [mE, Bool.and_eq_true, decide_eq_true_eq] at h
    obtain ⟨⟨⟨⟨rfl, h1⟩, h2⟩, h3⟩, h4⟩ := h
    have g := F.gl h1
    cases as with
    | nil => cases h2
    | cons x r =>
      have p := PE_fresh (pe_rblt (p := p) (pos := pos) F.calm F.hu F.gd g.1 (F.G.blt _ (bltN_in b)) h3 (mL_ok l F h4))
      exact ⟨p, PT_plain p fun _ => rfl⟩
  | .isi a ts, x, c, Wx, X, F, h => by
    rcases ts with _ | ⟨t, _ | ⟨t2, ts⟩⟩
    · cases x <;> exact nomatch (show false = true from h)
    · cases x <;> first | exact nomatch (show false = true from h) | skip
      rename_i f as ks pos
      cases f <;> first | exact nomatch (show false = true from h) | skip
      rename_i x p
      rcases as with _ | ⟨y, _ | ⟨z, as⟩⟩ <;> first | exact nomatch (show false = true from h) | skip
      cases z <;> first | exact nomatch (show false = true from h) | skip
      cases as <;> first | exact nomatch (show false = true from h) | skip
      cases ks <;> first | exact nomatch (show false = true from h) | skip
      rename_i z pz
      simp only [mE, Bool.and_eq_true, decide_eq_true_eq] at h
      obtain ⟨⟨⟨⟨⟨⟨rfl, h1⟩, rfl⟩, h2⟩, h3⟩, h4⟩, h5⟩ := h
      have g := F.gl h1
      have g2 := F.gl h2
      have ht : ∀ k, t = .cls k → k < c.T.cl.length := fun k e => by
        subst e
        simpa [tyOk] using h3
      have p := pe_risi (p := p) (pos := pos) F.clsA F.G.ancl ht g.1 (F.G.blt _ (by decide)) h4 (pe_ty (C := C) (T := c.T) (t := t) (tp := pz) g2.1 g2.2.1 g2.2.2 (fun e => F.G.blt _ (by
        cases t <;> first | exact absurd rfl (e _) | (simp only [tyN]; decide))) fun k e => by
          subst e
          have hk := ht k rfl
          have := (F.G.cls k c.T.cl[k] (by simp [hk])).1
          simpa [tyN, hk] using this) (mE_ok a F h5).1
      exact ⟨p, PT_plain p fun _ => rfl⟩
    · cases x <;> exact nomatch (show false = true from h)
  | .idx a b, x, c, Wx, X, F, h => by
    cases x <;> first | exact nomatch (show false = true from h) | skip
    rename_i f as ks pos
    cases f <;> first | exact nomatch (show false = true from h) | skip
    rename_i o nm ap
    rcases as with _ | ⟨y, _ | ⟨z, as⟩⟩ <;> first | exact nomatch (show false = true from h) | skip
    cases ks <;> first | exact nomatch (show false = true from h) | skip
    simp only [mE, Bool.and_eq_true, decide_eq_true_eq] at h
    obtain ⟨⟨⟨⟨⟨rfl, h1⟩, h2⟩, h3⟩, h4⟩, h5⟩ := h
    have p := pe_ridx (S := S) (C := C) (Wx := Wx) F.hu h3 h1 (base_ok (by cases o <;> first | rfl | cases h2) X.env) (mE_ok a F h4).1 (mE_ok b F h5).1
    exact ⟨p, PT_plain p fun _ => rfl⟩
  | .cnt a b, x, c, Wx, X, F, h => by
    cases x <;> first | exact nomatch (show false = true from h) | skip
    rename_i f as ks pos
    cases f <;> first | exact nomatch (show false = true from h) | skip
    rename_i o nm ap
    rcases as with _ | ⟨y, _ | ⟨z, as⟩⟩ <;> first | exact nomatch (show false = true from h) | skip
    cases ks <;> first | exact nomatch (show false = true from h) | skip
    simp only [mE, Bool.and_eq_true, decide_eq_true_eq] at h
    obtain ⟨⟨⟨⟨⟨rfl, h1⟩, h2⟩, h3⟩, h4⟩, h5⟩ := h
    have p := pe_rcnt (S := S) (C := C) (Wx := Wx) F.hu h3 h1 (base_ok (by cases o <;> first | rfl | cases h2) X.env) (mE_ok a F h4).1 (mE_ok b F h5).1
    exact ⟨p, PT_plain p fun _ => rfl⟩
  | .comp vs e t i d, x, c, Wx, X, F, h => by
    cases x <;> first | exact nomatch (show false = true from h) | skip
    rename_i x gs scope pos
    rcases gs with _ | ⟨⟨tg, it, ifs, k⟩, _ | ⟨g2, gs⟩⟩ <;> first | exact nomatch (show false = true from h) | skip
    simp only [mE, Bool.and_eq_true, decide_eq_true_eq, List.all_eq_true] at h
    obtain ⟨⟨⟨⟨⟨⟨⟨rfl, h1⟩, h2⟩, h3⟩, h4⟩, h5⟩, h6⟩, h7⟩ := h
    have p : PE X (.ListComp x [⟨tg, it, ifs, 0⟩] scope pos) (tE X.K C Wx (evE S (.comp vs e t i d))) := by
      have hown := ownOf_snd c vs
      have q := pe_rcomp (X := X) (C := C) (S := S) (Wx := Wx) (elt := x) (scope := scope) (own := ownOf c vs) (pos := pos) (t := t) (e := e) (i := i) (c := d) (ifs := ifs) F.calm (by rw [F.N]; exact F.nd) (mI_ok i F h5) (blkOk_by (by rw [F.N, F.sc]; exact h1))
        (fun s H D cl fp => (F.blk scope s H D cl fp).pt h2) (fun s H D cl fp => ?_) (fun s H D cl fp => (mE_ok e (F.blk scope s H D cl fp) h6).1) (noSet_f h4 _) (by rw [hown]; exact h3)
      · rw [hown] at q
        exact PE_fresh q
      · rcases ifs with _ | ⟨y, _ | ⟨y2, ifs⟩⟩
        · obtain rfl := isNil_ok h7
          refine ⟨fun pins s σ H Q I hw => pts_nil.run pins s σ H Q I ?_⟩
          obtain ⟨W, fr, st, R, q⟩ := hw
          exact q W H (.refl _ _) rfl R
        · have hn : d ≠ .nil := fun z => by subst z; exact mE_nil h7
          rw [evC_some hn]
          exact pts_one (mE_ok d (F.blk scope s H D cl fp) h7).2
        · cases h7
    exact ⟨p, PT_plain p fun _ => rfl⟩
  | .nil, x, c, Wx, X, F, h => (mE_nil h).elim
  | .cons _ _, x, c, Wx, X, F, h => by cases x <;> cases h
  | .fld _, x, c, Wx, X, F, h => by cases x <;> cases h
  | .comp2 _ _ _ _ _ _ _ _ _, x, c, Wx, X, F, h => by cases x <;> cases h
  | .itS _, x, c, Wx, X, F, h => by cases x <;> cases h
  | .itR _, x, c, Wx, X, F, h => by cases x <;> cases h
  | .itE _, x, c, Wx, X, F, h => by cases x <;> cases h
  | .itZ _ _ _, x, c, Wx, X, F, h => by cases x <;> cases h
theorem mAnd_ok : ∀ (l : E) {es : List Expr} {c : Ctx} {Wx : WX} {X : Cx}, Fit c C S n Wx X → mA l es c = true → AndC C Wx S X .And es (evA S l)
  | .cons a l, es, c, Wx, X, F, h => by
    rcases es with _ | ⟨x, _ | ⟨y, r⟩⟩
    · cases h
    · simp only [mA, Bool.and_eq_true] at h
      obtain rfl := isNil_ok h.2
      exact and_one (mE_ok a F h.1)
    · simp only [mA, Bool.and_eq_true] at h
      exact and_cons (mE_ok a F h.1) (mAnd_ok l F h.2)
  | .var _, es, c, Wx, X, F, h => nomatch (show false = true from h)
  | .cst _, es, c, Wx, X, F, h => nomatch (show false = true from h)
  | .glb _, es, c, Wx, X, F, h => nomatch (show false = true from h)
  | .neg _, es, c, Wx, X, F, h => nomatch (show false = true from h)
  | .not _, es, c, Wx, X, F, h => nomatch (show false = true from h)
  | .bin _ _ _, es, c, Wx, X, F, h => nomatch (show false = true from h)
  | .cmp _ _ _, es, c, Wx, X, F, h => nomatch (show false = true from h)
  | .chn _ _ _ _ _, es, c, Wx, X, F, h => nomatch (show false = true from h)
  | .and _, es, c, Wx, X, F, h => nomatch (show false = true from h)
  | .or _, es, c, Wx, X, F, h => nomatch (show false = true from h)
  | .ite _ _ _, es, c, Wx, X, F, h => nomatch (show false = true from h)
  | .tup _, es, c, Wx, X, F, h => nomatch (show false = true from h)
  | .lst _, es, c, Wx, X, F, h => nomatch (show false = true from h)
  | .nil, es, c, Wx, X, F, h => nomatch (show false = true from h)
  | .sub _ _, es, c, Wx, X, F, h => nomatch (show false = true from h)
  | .slc _ _ _, es, c, Wx, X, F, h => nomatch (show false = true from h)
  | .rev _, es, c, Wx, X, F, h => nomatch (show false = true from h)
  | .call _ _ _, es, c, Wx, X, F, h => nomatch (show false = true from h)
  | .blt _ _, es, c, Wx, X, F, h => nomatch (show false = true from h)
  | .isi _ _, es, c, Wx, X, F, h => nomatch (show false = true from h)
  | .fld _, es, c, Wx, X, F, h => nomatch (show false = true from h)
  | .idx _ _, es, c, Wx, X, F, h => nomatch (show false = true from h)
  | .cnt _ _, es, c, Wx, X, F, h => nomatch (show false = true from h)
  | .comp _ _ _ _ _, es, c, Wx, X, F, h => nomatch (show false = true from h)
  | .comp2 _ _ _ _ _ _ _ _ _, es, c, Wx, X, F, h => nomatch (show false = true from h)
  | .itS _, es, c, Wx, X, F, h => nomatch (show false = true from h)
  | .itR _, es, c, Wx, X, F, h => nomatch (show false = true from h)
  | .itE _, es, c, Wx, X, F, h => nomatch (show false = true from h)
  | .itZ _ _ _, es, c, Wx, X, F, h => nomatch (show false = true from h)
theorem mOr_ok : ∀ (l : E) {es : List Expr} {c : Ctx} {Wx : WX} {X : Cx}, Fit c C S n Wx X → mA l es c = true → AndC C Wx S X .Or es (evR S l)
  | .cons a l, es, c, Wx, X, F, h => by
    rcases es with _ | ⟨x, _ | ⟨y, r⟩⟩
    · cases h
    · simp only [mA, Bool.and_eq_true] at h
      obtain rfl := isNil_ok h.2
      exact or_one (mE_ok a F h.1)
    · simp only [mA, Bool.and_eq_true] at h
      exact or_cons (mE_ok a F h.1) (mOr_ok l F h.2)
  | .var _, es, c, Wx, X, F, h => nomatch (show false = true from h)
  | .cst _, es, c, Wx, X, F, h => nomatch (show false = true from h)
  | .glb _, es, c, Wx, X, F, h => nomatch (show false = true from h)
  | .neg _, es, c, Wx, X, F, h => nomatch (show false = true from h)
  | .not _, es, c, Wx, X, F, h => nomatch (show false = true from h)
  | .bin _ _ _, es, c, Wx, X, F, h => nomatch (show false = true from h)
  | .cmp _ _ _, es, c, Wx, X, F, h => nomatch (show false = true from h)
  | .chn _ _ _ _ _, es, c, Wx, X, F, h => nomatch (show false = true from h)
  | .and _, es, c, Wx, X, F, h => nomatch (show false = true from h)
  | .or _, es, c, Wx, X, F, h => nomatch (show false = true from h)
  | .ite _ _ _, es, c, Wx, X, F, h => nomatch (show false = true from h)
  | .tup _, es, c, Wx, X, F, h => nomatch (show false = true from h)
  | .lst _, es, c, Wx, X, F, h => nomatch (show false = true from h)
  | .nil, es, c, Wx, X, F, h => nomatch (show false = true from h)
  | .sub _ _, es, c, Wx, X, F, h => nomatch (show false = true from h)
  | .slc _ _ _, es, c, Wx, X, F, h => nomatch (show false = true from h)
  | .rev _, es, c, Wx, X, F, h => nomatch (show false = true from h)
  | .call _ _ _, es, c, Wx, X, F, h => nomatch (show false = true from h)
  | .blt _ _, es, c, Wx, X, F, h => nomatch (show false = true from h)
  | .isi _ _, es, c, Wx, X, F, h => nomatch (show false = true from h)
  | .fld _, es, c, Wx, X, F, h => nomatch (show false = true from h)
  | .idx _ _, es, c, Wx, X, F, h => nomatch (show false = true from h)
  | .cnt _ _, es, c, Wx, X, F, h => nomatch (show false = true from h)
  | .comp _ _ _ _ _, es, c, Wx, X, F, h => nomatch (show false = true from h)
  | .comp2 _ _ _ _ _ _ _ _ _, es, c, Wx, X, F, h => nomatch (show false = true from h)
  | .itS _, es, c, Wx, X, F, h => nomatch (show false = true from h)
  | .itR _, es, c, Wx, X, F, h => nomatch (show false = true from h)
  | .itE _, es, c, Wx, X, F, h => nomatch (show false = true from h)
  | .itZ _ _ _, es, c, Wx, X, F, h => nomatch (show false = true from h)
theorem mL_ok : ∀ (l : E) {es : List Expr} {c : Ctx} {Wx : WX} {X : Cx}, Fit c C S n Wx X → mL l es c = true → PA X es (tL X.K C Wx (evL S l))
  | .nil, es, c, Wx, X, F, h => by
    cases es
    · exact pa_rnil
    · cases h
  | .cons a l, es, c, Wx, X, F, h => by
    cases es
    · cases h
    · simp only [mL, Bool.and_eq_true] at h
      exact pa_rcons h.1.1 (mE_ok a F h.1.2).1 (mL_ok l F h.2)
  | .var _, es, c, Wx, X, F, h => nomatch (show false = true from h)
  | .cst _, es, c, Wx, X, F, h => nomatch (show false = true from h)
  | .glb _, es, c, Wx, X, F, h => nomatch (show false = true from h)
  | .neg _, es, c, Wx, X, F, h => nomatch (show false = true from h)
  | .not _, es, c, Wx, X, F, h => nomatch (show false = true from h)
  | .bin _ _ _, es, c, Wx, X, F, h => nomatch (show false = true from h)
  | .cmp _ _ _, es, c, Wx, X, F, h => nomatch (show false = true from h)
  | .chn _ _ _ _ _, es, c, Wx, X, F, h => nomatch (show false = true from h)
  | .and _, es, c, Wx, X, F, h => nomatch (show false = true from h)
  | .or _, es, c, Wx, X, F, h => nomatch (show false = true from h)
  | .ite _ _ _, es, c, Wx, X, F, h => nomatch (show false = true from h)
  | .tup _, es, c, Wx, X, F, h => nomatch (show false = true from h)
  | .lst _, es, c, Wx, X, F, h => nomatch (show false = true from h)
  | .sub _ _, es, c, Wx, X, F, h => nomatch (show false = true from h)
  | .slc _ _ _, es, c, Wx, X, F, h => nomatch (show false = true from h)
  | .rev _, es, c, Wx, X, F, h => nomatch (show false = true from h)
  | .call _ _ _, es, c, Wx, X, F, h => nomatch (show false = true from h)
  | .blt _ _, es, c, Wx, X, F, h => nomatch (show false = true from h)
  | .isi _ _, es, c, Wx, X, F, h => nomatch (show false = true from h)
  | .fld _, es, c, Wx, X, F, h => nomatch (show false = true from h)
  | .idx _ _, es, c, Wx, X, F, h => nomatch (show false = true from h)
  | .cnt _ _, es, c, Wx, X, F, h => nomatch (show false = true from h)
  | .comp _ _ _ _ _, es, c, Wx, X, F, h => nomatch (show false = true from h)
  | .comp2 _ _ _ _ _ _ _ _ _, es, c, Wx, X, F, h => nomatch (show false = true from h)
  | .itS _, es, c, Wx, X, F, h => nomatch (show false = true from h)
  | .itR _, es, c, Wx, X, F, h => nomatch (show false = true from h)
  | .itE _, es, c, Wx, X, F, h => nomatch (show false = true from h)
  | .itZ _ _ _, es, c, Wx, X, F, h => nomatch (show false = true from h)
theorem mK_ok : ∀ (l : E) {es : List Keyword} {c : Ctx} {Wx : WX} {X : Cx}, Fit c C S n Wx X → mK l es c = true → PK X es (tL X.K C Wx (evL S l))
  | .nil, es, c, Wx, X, F, h => by
    cases es
    · exact pk_rnil
    · cases h
  | .cons a l, es, c, Wx, X, F, h => by
    cases es
    · cases h
    · rename_i kw r
      obtain ⟨nm, x, kp⟩ := kw
      simp only [mK, Bool.and_eq_true] at h
      exact pk_rcons (mE_ok a F h.1).1 (mK_ok l F h.2)
  | .var _, es, c, Wx, X, F, h => nomatch (show false = true from h)
  | .cst _, es, c, Wx, X, F, h => nomatch (show false = true from h)
  | .glb _, es, c, Wx, X, F, h => nomatch (show false = true from h)
  | .neg _, es, c, Wx, X, F, h => nomatch (show false = true from h)
  | .not _, es, c, Wx, X, F, h => nomatch (show false = true from h)
  | .bin _ _ _, es, c, Wx, X, F, h => nomatch (show false = true from h)
  | .cmp _ _ _, es, c, Wx, X, F, h => nomatch (show false = true from h)
  | .chn _ _ _ _ _, es, c, Wx, X, F, h => nomatch (show false = true from h)
  | .and _, es, c, Wx, X, F, h => nomatch (show false = true from h)
  | .or _, es, c, Wx, X, F, h => nomatch (show false = true from h)
  | .ite _ _ _, es, c, Wx, X, F, h => nomatch (show false = true from h)
  | .tup _, es, c, Wx, X, F, h => nomatch (show false = true from h)
  | .lst _, es, c, Wx, X, F, h => nomatch (show false = true from h)
  | .sub _ _, es, c, Wx, X, F, h => nomatch (show false = true from h)
  | .slc _ _ _, es, c, Wx, X, F, h => nomatch (show false = true from h)
  | .rev _, es, c, Wx, X, F, h => nomatch (show false = true from h)
  | .call _ _ _, es, c, Wx, X, F, h => nomatch (show false = true from h)
  | .blt _ _, es, c, Wx, X, F, h => nomatch (show false = true from h)
  | .isi _ _, es, c, Wx, X, F, h => nomatch (show false = true from h)
  | .fld _, es, c, Wx, X, F, h => nomatch (show false = true from h)
  | .idx _ _, es, c, Wx, X, F, h => nomatch (show false = true from h)
  | .cnt _ _, es, c, Wx, X, F, h => nomatch (show false = true from h)
  | .comp _ _ _ _ _, es, c, Wx, X, F, h => nomatch (show false = true from h)
  | .comp2 _ _ _ _ _ _ _ _ _, es, c, Wx, X, F, h => nomatch (show false = true from h)
  | .itS _, es, c, Wx, X, F, h => nomatch (show false = true from h)
  | .itR _, es, c, Wx, X, F, h => nomatch (show false = true from h)
  | .itE _, es, c, Wx, X, F, h => nomatch (show false = true from h)
  | .itZ _ _ _, es, c, Wx, X, F, h => nomatch (show false = true from h)
theorem mI_ok : ∀ (l : E) {tg it : Expr} {c : Ctx} {Wx : WX} {X : Cx}, Fit c C S n Wx X → mI l tg it c = true → PI X tg it (tI X.K C Wx (evI S l))
  | .itS a, tg, it, c, Wx, X, F, h => by
    have h : mE a it c = true := h
    exact pi_rS (mE_ok a F h).1
  | .itE a, tg, it, c, Wx, X, F, h => by
    cases tg <;> first | exact nomatch (show false = true from h) | skip
    cases it <;> first | exact nomatch (show false = true from h) | skip
    rename_i f as ks pos
    cases f <;> first | exact nomatch (show false = true from h) | skip
    rcases as with _ | ⟨y, _ | ⟨z, as⟩⟩ <;> first | exact nomatch (show false = true from h) | skip
    cases ks <;> first | exact nomatch (show false = true from h) | skip
    simp only [mI, Bool.and_eq_true, decide_eq_true_eq] at h
    obtain ⟨⟨⟨rfl, h1⟩, h2⟩, h3⟩ := h
    have g := F.gl h1
    exact pi_rE g.1 (F.G.blt _ (by decide)) h2 (mE_ok a F h3).1
  | .itR l, tg, it, c, Wx, X, F, h => by
    cases it <;> first | exact nomatch (show false = true from h) | skip
    rename_i f as ks pos
    cases f <;> first | exact nomatch (show false = true from h) | skip
    rcases as with _ | ⟨y, _ | ⟨z, _ | ⟨w, as⟩⟩⟩ <;> first | exact nomatch (show false = true from h) | skip
    · cases ks <;> first | exact nomatch (show false = true from h) | skip
      simp only [mI, Bool.and_eq_true, decide_eq_true_eq] at h
      obtain ⟨⟨rfl, h1⟩, h2⟩ := h
      have g := F.gl h1
      have ns : noStar y = true := by
        cases l <;> first | exact nomatch (show false = true from h2) | skip
        simp only [mL, Bool.and_eq_true] at h2
        exact h2.1.1
      exact pi_rR1 g.1 (F.G.blt _ (by decide)) ns (mL_ok l F h2) fun _ _ _ _ e => mL_len l h2 e
    · cases ks <;> first | exact nomatch (show false = true from h) | skip
      simp only [mI, Bool.and_eq_true, decide_eq_true_eq] at h
      obtain ⟨⟨rfl, h1⟩, h2⟩ := h
      have g := F.gl h1
      have ns : noStar y = true ∧ noStar z = true := by
        cases l <;> first | exact nomatch (show false = true from h2) | skip
        rename_i a l
        simp only [mL, Bool.and_eq_true] at h2
        refine ⟨h2.1.1, ?_⟩
        have h3 := h2.2
        cases l <;> first | exact nomatch (show false = true from h3) | skip
        simp only [mL, Bool.and_eq_true] at h3
        exact h3.1.1
      exact pi_rR2 g.1 (F.G.blt _ (by decide)) ns.1 ns.2 (mL_ok l F h2) fun _ _ _ _ e => mL_len l h2 e
  | .nil, tg, it, c, Wx, X, F, h => nomatch (show false = true from h)
  | .cons _ _, tg, it, c, Wx, X, F, h => nomatch (show false = true from h)
  | .var _, tg, it, c, Wx, X, F, h => nomatch (show false = true from h)
  | .cst _, tg, it, c, Wx, X, F, h => nomatch (show false = true from h)
  | .glb _, tg, it, c, Wx, X, F, h => nomatch (show false = true from h)
  | .neg _, tg, it, c, Wx, X, F, h => nomatch (show false = true from h)
  | .not _, tg, it, c, Wx, X, F, h => nomatch (show false = true from h)
  | .bin _ _ _, tg, it, c, Wx, X, F, h => nomatch (show false = true from h)
  | .cmp _ _ _, tg, it, c, Wx, X, F, h => nomatch (show false = true from h)
  | .chn _ _ _ _ _, tg, it, c, Wx, X, F, h => nomatch (show false = true from h)
  | .and _, tg, it, c, Wx, X, F, h => nomatch (show false = true from h)
  | .or _, tg, it, c, Wx, X, F, h => nomatch (show false = true from h)
  | .ite _ _ _, tg, it, c, Wx, X, F, h => nomatch (show false = true from h)
  | .tup _, tg, it, c, Wx, X, F, h => nomatch (show false = true from h)
  | .lst _, tg, it, c, Wx, X, F, h => nomatch (show false = true from h)
  | .sub _ _, tg, it, c, Wx, X, F, h => nomatch (show false = true from h)
  | .slc _ _ _, tg, it, c, Wx, X, F, h => nomatch (show false = true from h)
  | .rev _, tg, it, c, Wx, X, F, h => nomatch (show false = true from h)
  | .call _ _ _, tg, it, c, Wx, X, F, h => nomatch (show false = true from h)
  | .blt _ _, tg, it, c, Wx, X, F, h => nomatch (show false = true from h)
  | .isi _ _, tg, it, c, Wx, X, F, h => nomatch (show false = true from h)
  | .fld _, tg, it, c, Wx, X, F, h => nomatch (show false = true from h)
  | .idx _ _, tg, it, c, Wx, X, F, h => nomatch (show false = true from h)
  | .cnt _ _, tg, it, c, Wx, X, F, h => nomatch (show false = true from h)
  | .comp _ _ _ _ _, tg, it, c, Wx, X, F, h => nomatch (show false = true from h)
  | .comp2 _ _ _ _ _ _ _ _ _, tg, it, c, Wx, X, F, h => nomatch (show false = true from h)
  | .itZ _ _ _, tg, it, c, Wx, X, F, h => nomatch (show false = true from h)
end
end
end Rm
set_option Elab.async false
set_option linter.all false
set_option maxHeartbeats 4000000
/-! Statements of the small language. -/
namespace Rm
open PySem PySem.Spec L2

inductive S where
  | nop | seq (a b : S) | frz (i : Nat) (b : S)
  | set (i : Nat) (e : E) | own (i : Nat) (e : E) | tgt (t : T) (e : E) | par (i j : Nat) (a b : E) | aug (i : Nat) (op : Op) (e : E)
  | app (i : Nat) (e : E) | sto (i : Nat) (k e : E) | xpr (e : E) | doc | ret (e : E) | retN | retF (e : E)
  | ite (c : E) (a b : S) | for (t : T) (it : E) (b : S) | whl (c : E) (b : S) | brk | cnt | rse (c : Nat) (l : E) | try (b : S) (c i j : Nat)

inductive Res where
  | nx (fr : Frm) (st : Sto) | rt (p : PV) (st : Sto) | bk (fr : Frm) (st : Sto) | ct (fr : Frm) (st : Sto) | ex (c : Nat) (p : PV) (fr : Frm) (st : Sto) | bad
def Out.res {α : Type} (o : Out α) (fr : Frm) (k : α → Sto → Res) : Res := match o with
  | .ok a st => k a st
  | .exc c p st => .ex c p fr st
  | .bad => .bad
@[simp] theorem Out.res_ok {α : Type} (a : α) (st : Sto) (fr : Frm) (k : α → Sto → Res) : (Out.ok a st).res fr k = k a st := rfl
@[simp] theorem Out.res_exc {α : Type} (c : Nat) (p : PV) (st : Sto) (fr : Frm) (k : α → Sto → Res) : (Out.exc c p st : Out α).res fr k = .ex c p fr st := rfl
@[simp] theorem Out.res_bad {α : Type} (fr : Frm) (k : α → Sto → Res) : (Out.bad : Out α).res fr k = .bad := rfl
def Res.then (r : Res) (k : Frm → Sto → Res) : Res := match r with
  | .nx fr st => k fr st
  | r => r
@[simp] theorem Res.then_nx (fr : Frm) (st : Sto) (k : Frm → Sto → Res) : (Res.nx fr st).then k = k fr st := rfl
@[simp] theorem Res.then_rt (p : PV) (st : Sto) (k : Frm → Sto → Res) : (Res.rt p st).then k = .rt p st := rfl
@[simp] theorem Res.then_bk (fr : Frm) (st : Sto) (k : Frm → Sto → Res) : (Res.bk fr st).then k = .bk fr st := rfl
@[simp] theorem Res.then_ct (fr : Frm) (st : Sto) (k : Frm → Sto → Res) : (Res.ct fr st).then k = .ct fr st := rfl
@[simp] theorem Res.then_ex (c : Nat) (p : PV) (fr : Frm) (st : Sto) (k : Frm → Sto → Res) : (Res.ex c p fr st).then k = .ex c p fr st := rfl
@[simp] theorem Res.then_bad (k : Frm → Sto → Res) : Res.bad.then k = .bad := rfl
def Res.ofF (o : Option Frm) (st : Sto) : Res := match o with
  | some fr => .nx fr st
  | none => .bad

/-- a slot takes a value -/
def setF (i : Nat) (p : PV) (fr : Frm) : Option Frm := if keep p = true ∧ i < fr.length then some (fr.set i (some (.val p))) else none
def ownF (i : Nat) (p : PV) (fr : Frm) : Option Frm := match p with
  | .seq false xs => if i < fr.length then some (fr.set i (some (.own xs))) else none
  | _ => none
def frzF (i : Nat) (fr : Frm) : Option Frm := match fr[i]? with
  | some (some (.own xs)) => some (fr.set i (some (.val (.seq false xs))))
  | _ => none
def valF (fr : Frm) (i : Nat) : Option PV := match fr[i]? with
  | some (some (.val p)) => some p
  | _ => none
def augF (op : Op) : PV → PV → Option PV
  | .int i, .int j => match op with
    | .add => some (.int (i + j))
    | .sub => some (.int (i - j))
    | _ => none
  | _, _ => none
/-- a list is written: a slot's own, or the store's -/
def wrF (fr : Frm) (st : Sto) (i : Nat) (f : List PV → Option (List PV)) : Res := match fr[i]? with
  | some (some (.own xs)) => match f xs with
    | some ys => .nx (fr.set i (some (.own ys))) st
    | none => .bad
  | some (some (.val (.ref n))) => match st[n]? with
    | some xs => match f xs with
      | some ys => .nx fr (st.set n ys)
      | none => .bad
    | none => .bad
  | _ => .bad
def lstSlot (fr : Frm) (st : Sto) (i : Nat) : Bool := match fr[i]? with
  | some (some (.own _)) => true
  | some (some (.val (.ref n))) => decide (n < st.length)
  | _ => false
def appF (p : PV) (xs : List PV) : Option (List PV) := if keep p = true ∧ xs.length < sizeLine then some (xs ++ [p]) else none
def stoF (k p : PV) (xs : List PV) : Option (List PV) := match k with
  | .int k => if keep p = true then (ixN xs.length k).map fun j => xs.set j p else none
  | _ => none

def forRun (t : T) (body : Frm → Sto → Res) : List PV → Frm → Sto → Res
  | [], fr, st => .nx fr st
  | x :: xs, fr, st => match asg t x fr with
    | none => .bad
    | some fr1 => match body fr1 st with
      | .nx fr2 st2 => forRun t body xs fr2 st2
      | .ct fr2 st2 => forRun t body xs fr2 st2
      | .bk fr2 st2 => .nx fr2 st2
      | r => r
def whlRun (tst : Frm → Sto → Out Bool) (body : Frm → Sto → Res) : Nat → Frm → Sto → Res
  | 0, _, _ => .bad
  | n + 1, fr, st => (tst fr st).res fr fun b st => if b = true then (match body fr st with
      | .nx fr2 st2 => whlRun tst body n fr2 st2
      | .ct fr2 st2 => whlRun tst body n fr2 st2
      | .bk fr2 st2 => .nx fr2 st2
      | r => r) else .nx fr st
/-- a caught error -/
def tryF (G : Sig) (c i j : Nat) (r : Res) : Res := match r with
  | .ex k p fr st => match G.anc[k]? with
    | some l => if l.contains c = true then (if j < fr.length ∧ i ≠ j then .nx ((fr.set j (some (.val (.exc k p)))).set i none) st else .bad) else .ex k p fr st
    | none => .bad
  | r => r

def exS (G : Sig) : S → Frm → Sto → Res
  | .nop, fr, st => .nx fr st
  | .doc, fr, st => .nx fr st
  | .seq a b, fr, st => (exS G a fr st).then (exS G b)
  | .frz i b, fr, st => (Res.ofF (frzF i fr) st).then (exS G b)
  | .set i e, fr, st => (evE G e fr st).res fr fun p st => .ofF (setF i p fr) st
  | .own i e, fr, st => (evE G e fr st).res fr fun p st => .ofF (ownF i p fr) st
  | .tgt t e, fr, st => (evE G e fr st).res fr fun p st => if keep p = true then .ofF (asg t p fr) st else .bad
  | .par i j a b, fr, st => (evE G a fr st).res fr fun p st => (evE G b fr st).res fr fun q st => .ofF ((setF i p fr).bind (setF j q)) st
  | .aug i op e, fr, st => match valF fr i with
    | some x => (evE G e fr st).res fr fun y st => .ofF ((augF op x y).bind fun z => setF i z fr) st
    | none => .bad
  | .app i e, fr, st => if lstSlot fr st i = true then (evE G e fr st).res fr fun p st => wrF fr st i (appF p) else .bad
  | .sto i k e, fr, st => if lstSlot fr st i = true then (evE G e fr st).res fr fun p st => (evE G k fr st).res fr fun k st => wrF fr st i (stoF k p) else .bad
  | .xpr e, fr, st => (evE G e fr st).res fr fun _ st => .nx fr st
  | .ret e, fr, st => (evE G e fr st).res fr fun p st => if keep p = true then .rt p st else .bad
  | .retN, _, st => .rt .non st
  | .retF e, fr, st => (evE G e fr st).res fr fun p st => match p with
    | .seq false xs => .rt (.ref st.length) (st ++ [xs])
    | _ => .bad
  | .ite c a b, fr, st => (evT G c fr st).res fr fun k st => if k = true then exS G a fr st else exS G b fr st
  | .for t it b, fr, st => (evI G it fr st).res fr fun xs st => forRun t (exS G b) xs fr st
  | .whl c b, fr, st => whlRun (evT G c) (exS G b) G.fuel fr st
  | .brk, fr, st => .bk fr st
  | .cnt, fr, st => .ct fr st
  | .rse c l, fr, st => (evL G l fr st).res fr fun ps st => if fits ps.length = true then .ex c .non fr st else .bad
  | .try b c i j, fr, st => tryF G c i j (exS G b fr st)
end Rm
set_option Elab.async false
set_option linter.all false
set_option maxHeartbeats 8000000
/-! Statements, rule by rule. -/
namespace Rm
open PySem PySem.Spec L2
section
variable (K : PySem.W.Frag) (C : Nat → Addr) (Wx : WX)
def ResP (W : Wd) (H : Hp) (D : Ends) (r : Res) : Prop := match r with
  | .nx fr st => ∀ W' H' σ', ExtS W H W' H' → Rel K C W' H' σ' fr st → D.nx σ' H'
  | .bk fr st => ∀ W' H' σ', ExtS W H W' H' → Rel K C W' H' σ' fr st → D.bk σ' H'
  | .ct fr st => ∀ W' H' σ', ExtS W H W' H' → Rel K C W' H' σ' fr st → D.ct σ' H'
  | .rt p st => ∀ W' H' v, ExtS W H W' H' → RelS K C W' H' st → Den K C W' H' v p → D.rt v H'
  | .ex c p fr st => ∀ W' H' σ' cls d, ExtS W H W' H' → Rel K C W' H' σ' fr st → ExcV C c p cls d → Wx cls d σ' H'
  | .bad => False
def tSt (f : Frm → Sto → Res) : TS := fun D σ H => ∃ W fr st, Rel K C W H σ fr st ∧ ResP K C Wx W H D (f fr st)
end
section
variable {K : PySem.W.Frag} {C : Nat → Addr} {Wx : WX} {W W' W1 : Wd} {H H' H1 : Hp} {D : Ends} {r : Res} {σ : St} {fr : Frm} {st : Sto}
theorem ResP.shift (h : ResP K C Wx W H D r) (x : ExtS W H W1 H1) : ResP K C Wx W1 H1 D r := by
  cases r with
  | nx fr st => exact fun W' H' σ' y R => h W' H' σ' (x.trans y) R
  | bk fr st => exact fun W' H' σ' y R => h W' H' σ' (x.trans y) R
  | ct fr st => exact fun W' H' σ' y R => h W' H' σ' (x.trans y) R
  | rt p st => exact fun W' H' v y R d => h W' H' v (x.trans y) R d
  | ex c p fr st => exact fun W' H' σ' cls d y R e => h W' H' σ' cls d (x.trans y) R e
  | bad => exact h
theorem res_post {α : Type} {o : Out α} {k : α → Sto → Res} (h : ResP K C Wx W H D (o.res fr k)) : Post o (fun a st => ResP K C Wx W H D (k a st)) (EndX K C Wx W H σ fr) := by
  cases o with
  | ok a st => exact h
  | exc c p st => exact fun W' H' cls d x o R e => h W' H' σ cls d (x.toS o) R e
  | bad => exact h
theorem ExtS.less {o : Nat → Option Addr} (h : ∀ i a, o i = some a → ∃ j, W.o j = some a) : ExtS W H (W.withO o) H where
  kp := fun _ _ e _ _ => e
  th := fun _ u e => ⟨u, e⟩
  F := fun _ e => e
  Fn := fun _ e => .inl e
  r := fun _ _ e => e
  rn := fun _ _ e => .inl e
  on := fun i a e => .inl (h i a e)
theorem Rel.setv {v : V} {p : PV} {i : Nat} (R : Rel K C W H σ fr st) (d : Den K C W H v p) (hi : i < fr.length) : Rel K C (W.withO (onlyO W (fr.set i (some (.val p))))) H (σ.set i (some v)) (fr.set i (some (.val p))) st := (R.slots.set d hi).rel R.s
theorem onlyS {fr : Frm} : ExtS W H (W.withO (onlyO W fr)) H := ExtS.less fun i a e => ⟨i, (onlyO_le e).1⟩
/-- name = value -/
theorem end_set {i : Nat} {p : PV} {W1 : Wd} {H1 : Hp} {v : V} (h : ResP K C Wx W H D (Res.ofF (setF i p fr) st)) (x : Ext W H W1 H1) (o : W1.o = W.o) (R : Rel K C W1 H1 σ fr st) (d : DenM K C W1 H1 v p) : D.nx (σ.set i (some v)) H1 := by
  unfold setF at h
  split at h
  · rename_i hk
    exact h _ _ _ ((x.toS o).trans onlyS) (R.setv (d.den hk.1) hk.2)
  · exact h.elim
theorem setO_some {α : Type} {x : α} {l : List (Option α)} {i j : Nat} {q : α} (h : (l.set i (some x))[j]? = some (some q)) : (i = j ∧ q = x ∧ i < l.length) ∨ (i ≠ j ∧ l[j]? = some (some q)) := by
  by_cases e : i = j
  · subst e
    by_cases hi : i < l.length
    · rw [List.getElem?_set_self hi] at h
      cases h
      exact .inl ⟨rfl, rfl, hi⟩
    · rw [List.getElem?_eq_none (by rw [List.length_set]; omega)] at h
      cases h
  · rw [List.getElem?_set_ne e] at h
    exact .inr ⟨e, h⟩
/-- a slot's own list: it stands at a -/
def putO (o : Nat → Option Addr) (i : Nat) (a : Addr) : Nat → Option Addr := fun j => if j = i then some a else o j
theorem putO_same {o : Nat → Option Addr} {i : Nat} {a : Addr} : putO o i a i = some a := by unfold putO; rw [if_pos rfl]
theorem putO_ne {o : Nat → Option Addr} {i j : Nat} {a : Addr} (h : j ≠ i) : putO o i a j = o j := by unfold putO; rw [if_neg h]
/-- name = a new list -/
theorem Rel.own_new {i : Nat} {a : Addr} {us : List V} {xs : List PV} (R : Rel K C W H σ fr st) (hi : i < fr.length) (e : H a = some (.lst us)) (d : Dens K C W H us xs) (n1 : ¬ W.F a) (n2 : ∀ n, W.r n ≠ some a) (n3 : ∀ i, W.o i ≠ some a) :
    Rel K C (W.withO (putO (onlyO W (fr.set i none)) i a)) H (σ.set i (some (.ref a))) (fr.set i (some (.own xs))) st := by
  have hO : ∀ j b, onlyO W (fr.set i none) j = some b → j ≠ i ∧ W.o j = some b := fun j b z => by
    obtain ⟨z1, ys, z2⟩ := onlyO_le z
    refine ⟨fun q => ?_, z1⟩
    subst q
    rw [List.getElem?_set_self hi] at z2
    cases z2
  have hP : ∀ j b, putO (onlyO W (fr.set i none)) i a j = some b → (j = i ∧ b = a) ∨ (j ≠ i ∧ W.o j = some b ∧ onlyO W (fr.set i none) j = some b) := fun j b z => by
    by_cases q : j = i
    · subst q
      rw [putO_same] at z
      cases z
      exact .inl ⟨rfl, rfl⟩
    · rw [putO_ne q] at z
      exact .inr ⟨q, (hO j b z).2, z⟩
  refine ⟨⟨⟨R.s.sep.rl, fun j b z => ?_, R.s.sep.Fs, R.s.sep.Fr, fun b j f z => ?_, fun n j b z1 z2 => ?_, R.s.sep.rr, fun j k b z1 z2 => ?_⟩, R.s.sz, fun n ys z => ?_, R.s.rn⟩, ?_, fun j p z => ?_, fun j ys z => ?_, fun j b z => ?_⟩
  · rcases hP j b z with ⟨_, rfl⟩ | ⟨_, z, _⟩
    · exact ⟨us, e⟩
    · exact R.s.sep.ol j b z
  · rcases hP j b z with ⟨_, rfl⟩ | ⟨_, z, _⟩
    · exact n1 f
    · exact R.s.sep.Fo b j f z
  · rcases hP j b z2 with ⟨_, rfl⟩ | ⟨_, z, _⟩
    · exact n2 n z1
    · exact R.s.sep.ro n j b z1 z
  · rcases hP j b z1 with ⟨q1, q2⟩ | ⟨_, y1, _⟩ <;> rcases hP k b z2 with ⟨q3, q4⟩ | ⟨_, y2, _⟩
    · rw [q1, q3]
    · subst q2
      exact absurd y2 (n3 k)
    · subst q4
      exact absurd y1 (n3 j)
    · exact R.s.sep.oo j k b y1 y2
  · obtain ⟨b, ws, h1, h2, h3⟩ := R.s.str n ys z
    exact ⟨b, ws, h1, h2, h3.withO⟩
  · rw [List.length_set, List.length_set]
    exact R.len
  · rcases setO_some z with ⟨_, z, _⟩ | ⟨q, z⟩
    · cases z
    · obtain ⟨v, h1, h2⟩ := R.slt j p z
      exact ⟨v, by rw [List.getElem?_set_ne q]; exact h1, h2.withO⟩
  · rcases setO_some z with ⟨rfl, z, _⟩ | ⟨q, z⟩
    · cases z
      exact ⟨a, us, List.getElem?_set_self (by rw [← R.len]; exact hi), putO_same, e, d.withO⟩
    · obtain ⟨b, ws, h1, h2, h3, h4⟩ := R.own j ys z
      refine ⟨b, ws, by rw [List.getElem?_set_ne q]; exact h1, ?_, h3, h4.withO⟩
      show putO _ i a j = some b
      rw [putO_ne (Ne.symm q)]
      unfold onlyO
      rw [List.getElem?_set_ne q, z]
      exact h2
  · rcases hP j b z with ⟨rfl, rfl⟩ | ⟨q, _, z⟩
    · exact ⟨xs, List.getElem?_set_self hi⟩
    · obtain ⟨_, ys, z⟩ := onlyO_le z
      rw [List.getElem?_set_ne (Ne.symm q)] at z
      exact ⟨ys, by rw [List.getElem?_set_ne (Ne.symm q)]; exact z⟩
theorem end_own {i : Nat} {p : PV} {W1 : Wd} {H1 : Hp} {a : Addr} {us : List V} {xs : List PV} (h : ResP K C Wx W H D (Res.ofF (ownF i (.seq false xs) fr) st)) (x : Ext W H W1 H1) (o : W1.o = W.o) (R : Rel K C W1 H1 σ fr st) (e : H1 a = some (.lst us)) (d : Dens K C W1 H1 us xs)
    (n1 : ¬ W1.F a) (n2 : ∀ n, W1.r n ≠ some a) (n3 : ∀ i, W1.o i ≠ some a) (hn : H a = none) : D.nx (σ.set i (some (.ref a))) H1 := by
  have h : ResP K C Wx W H D (Res.ofF (if i < fr.length then some (fr.set i (some (.own xs))) else none) st) := h
  split at h
  · rename_i hi
    refine h (W1.withO (putO (onlyO W1 (fr.set i none)) i a)) H1 _ ⟨fun b u e q1 q2 => x.kp b u e q1, x.th, x.F, fun b f => (x.Fn b f).elim .inl fun z => .inr (.inr z), x.r, fun m b f => (x.rn m b f).elim .inl fun z => .inr (.inr z), fun j b z => ?_⟩ (R.own_new hi e d n1 n2 n3)
    have z : putO (onlyO W1 (fr.set i none)) i a j = some b := z
    by_cases q : j = i
    · subst q
      rw [putO_same] at z
      cases z
      exact .inr hn
    · rw [putO_ne q] at z
      exact .inl ⟨j, by rw [← o]; exact (onlyO_le z).1⟩
  · exact h.elim
/-- an own list that nobody changes any more -/
theorem Rel.frz {i : Nat} {xs : List PV} (R : Rel K C W H σ fr st) (e : fr[i]? = some (some (.own xs))) :
    ∃ W', ExtS W H W' H ∧ Rel K C W' H σ (fr.set i (some (.val (.seq false xs)))) st := by
  obtain ⟨a, us, h1, h2, h3, h4⟩ := R.own i xs e
  have hi : i < fr.length := (List.getElem?_eq_some_iff.mp e).1
  have hs : Slots K C (W.withO (onlyO W (fr.set i none))) H (σ.set i none) (fr.set i none) := (R.slots.drop.rel R.s).slots
  have RR := R.slots.drop (i := i) |>.rel R.s
  have hn : ∀ j, (W.withO (onlyO W (fr.set i none))).o j ≠ some a := fun j z => by
    obtain ⟨z1, ys, z2⟩ := onlyO_le (show onlyO W (fr.set i none) j = some a from z)
    have := R.s.sep.oo i j a h2 z1
    subst this
    rw [List.getElem?_set_self hi] at z2
    cases z2
  have RA := RR.also h3 (fun n z => R.s.sep.ro n i a z h2) hn
  have hd : Den K C ((W.withO (onlyO W (fr.set i none))).also a) H (.ref a) (.seq false xs) := .lst (.inr rfl) h3 (h4.withO.also)
  have RB := RA.setv (i := i) hd (by rw [List.length_set]; exact hi)
  rw [List.set_set, List.set_set] at RB
  have es : σ.set i (some (.ref a)) = σ := by
    apply List.ext_getElem?
    intro j
    by_cases q : i = j
    · subst q
      rw [List.getElem?_set_self (by rw [← R.len]; exact hi), h1]
    · rw [List.getElem?_set_ne q]
  rw [es] at RB
  refine ⟨_, ?_, RB⟩
  refine ⟨fun _ _ e _ _ => e, fun _ u e => ⟨u, e⟩, fun _ z => .inl z, fun b z => ?_, fun _ _ z => z, fun _ _ z => .inl z, fun j b z => .inl ⟨j, ?_⟩⟩
  · rcases z with z | rfl
    · exact .inl z
    · exact .inr (.inl ⟨i, h2⟩)
  · exact (onlyO_le (onlyO_le (W := (W.withO (onlyO W (fr.set i none))).also a) z).1).1
end
end Rm
set_option Elab.async false
set_option linter.all false
set_option maxHeartbeats 8000000
/-! Statements, rule by rule: lists written, returns, loops. -/
namespace Rm
open PySem PySem.Spec L2
section
variable {K : PySem.W.Frag} {C : Nat → Addr} {Wx : WX} {W W' W1 : Wd} {H H' H1 : Hp} {D : Ends} {r : Res} {σ : St} {fr : Frm} {st : Sto} {a : Addr} {us us' : List V} {xs ys : List PV}
theorem kp_wr (nF : ¬ W.F a) (ha : H a = some (.lst us)) : ∀ b o, H b = some o → (W.F b ∨ ∀ us, o ≠ .lst us) → (upd H a (.lst us')) b = some o := fun b o e q => by
  by_cases z : b = a
  · subst z
    rw [ha] at e
    cases e
    rcases q with q | q
    · exact absurd q nF
    · exact absurd rfl (q us)
  · rw [upd_ne z]
    exact e
theorem Dens.wr (nF : ¬ W.F a) (ha : H a = some (.lst us)) (d : Dens K C W H us' ys) {ws : List V} : Dens K C W (upd H a (.lst ws)) us' ys := d.mono (fun _ z => z) (fun _ _ z => z) (kp_wr nF ha)
theorem Den.wr (nF : ¬ W.F a) (ha : H a = some (.lst us)) {v : V} {p : PV} (d : Den K C W H v p) {ws : List V} : Den K C W (upd H a (.lst ws)) v p := d.mono (fun _ z => z) (fun _ _ z => z) (kp_wr nF ha)
theorem isl_wr {b : Addr} {ws : List V} (h : ∃ zs, H b = some (.lst zs)) : ∃ zs, (upd H a (.lst ws)) b = some (.lst zs) := by
  by_cases z : b = a
  · subst z
    exact ⟨ws, upd_same⟩
  · rw [upd_ne z]
    exact h
theorem Sep.wr (S : Sep W H) : Sep W (upd H a (.lst us')) where
  rl := fun n b e => isl_wr (S.rl n b e)
  ol := fun n b e => isl_wr (S.ol n b e)
  Fs := fun b e => by
    by_cases z : b = a
    · subst z
      exact ⟨_, upd_same⟩
    · rw [upd_ne z]
      exact S.Fs b e
  Fr := S.Fr
  Fo := S.Fo
  ro := S.ro
  rr := S.rr
  oo := S.oo
/-- a slot's own list is written -/
theorem Rel.wr_own {i : Nat} (R : Rel K C W H σ fr st) (e : fr[i]? = some (some (.own xs))) (ho : W.o i = some a) (d : Dens K C W H us' ys) (hz : us'.length ≤ sizeLine) :
    ExtS W H W (upd H a (.lst us')) ∧ Rel K C W (upd H a (.lst us')) σ (fr.set i (some (.own ys))) st := by
  obtain ⟨us, ha⟩ := R.s.sep.ol i a ho
  have nF : ¬ W.F a := fun z => R.s.sep.Fo a i z ho
  have hi : i < fr.length := (List.getElem?_eq_some_iff.mp e).1
  refine ⟨⟨fun b u q _ n => by rw [upd_ne (fun z => n i (by rw [z]; exact ho))]; exact q, fun b u q => ?_, fun _ z => z, fun _ z => .inl z, fun _ _ z => z, fun _ _ z => .inl z, fun j b z => .inl ⟨j, z⟩⟩, ⟨R.s.sep.wr, R.s.sz.upd hz, fun n zs q => ?_, R.s.rn⟩, by rw [List.length_set]; exact R.len, fun j p q => ?_, fun j zs q => ?_, fun j b q => ?_⟩
  · by_cases z : b = a
    · subst z
      exact ⟨_, upd_same⟩
    · exact ⟨u, by rw [upd_ne z]; exact q⟩
  · obtain ⟨b, ws, h1, h2, h3⟩ := R.s.str n zs q
    exact ⟨b, ws, h1, by rw [upd_ne (fun z => R.s.sep.ro n i b h1 (by rw [z]; exact ho))]; exact h2, h3.wr nF ha⟩
  · rcases setO_some q with ⟨_, z, _⟩ | ⟨_, z⟩
    · cases z
    · obtain ⟨v, h1, h2⟩ := R.slt j p z
      exact ⟨v, h1, h2.wr nF ha⟩
  · rcases setO_some q with ⟨rfl, z, _⟩ | ⟨z1, z⟩
    · cases z
      obtain ⟨b, ws, h1, h2, _⟩ := R.own i xs e
      rw [ho] at h2
      cases h2
      exact ⟨a, us', h1, ho, upd_same, d.wr nF ha⟩
    · obtain ⟨b, ws, h1, h2, h3, h4⟩ := R.own j zs z
      exact ⟨b, ws, h1, h2, by rw [upd_ne (fun q => z1 (R.s.sep.oo i j a ho (by rw [← q]; exact h2)))]; exact h3, h4.wr nF ha⟩
  · by_cases z : i = j
    · subst z
      exact ⟨ys, List.getElem?_set_self hi⟩
    · rw [List.getElem?_set_ne z]
      exact R.on j b q
/-- one of the store's lists is written -/
theorem Rel.wr_ref {m : Nat} (R : Rel K C W H σ fr st) (hr : W.r m = some a) (d : Dens K C W H us' ys) (hz : us'.length ≤ sizeLine) :
    ExtS W H W (upd H a (.lst us')) ∧ Rel K C W (upd H a (.lst us')) σ fr (st.set m ys) := by
  obtain ⟨us, ha⟩ := R.s.sep.rl m a hr
  have nF : ¬ W.F a := fun z => R.s.sep.Fr a m z hr
  refine ⟨⟨fun b u q n _ => by rw [upd_ne (fun z => n m (by rw [z]; exact hr))]; exact q, fun b u q => ?_, fun _ z => z, fun _ z => .inl z, fun _ _ z => z, fun _ _ z => .inl z, fun j b z => .inl ⟨j, z⟩⟩, ⟨R.s.sep.wr, R.s.sz.upd hz, fun n zs q => ?_, fun n b q => by rw [List.length_set]; exact R.s.rn n b q⟩, R.len, fun j p q => ?_, fun j zs q => ?_, R.on⟩
  · by_cases z : b = a
    · subst z
      exact ⟨_, upd_same⟩
    · exact ⟨u, by rw [upd_ne z]; exact q⟩
  · by_cases z : m = n
    · subst z
      have hm := R.s.rn m a hr
      rw [List.getElem?_set_self hm] at q
      cases q
      exact ⟨a, us', hr, upd_same, d.wr nF ha⟩
    · rw [List.getElem?_set_ne z] at q
      obtain ⟨b, ws, h1, h2, h3⟩ := R.s.str n zs q
      exact ⟨b, ws, h1, by rw [upd_ne (fun y => z (R.s.sep.rr m n a hr (by rw [← y]; exact h1)))]; exact h2, h3.wr nF ha⟩
  · obtain ⟨v, h1, h2⟩ := R.slt j p q
    exact ⟨v, h1, h2.wr nF ha⟩
  · obtain ⟨b, ws, h1, h2, h3, h4⟩ := R.own j zs q
    exact ⟨b, ws, h1, h2, by rw [upd_ne (fun y => R.s.sep.ro m j a hr (by rw [← y]; exact h2))]; exact h3, h4.wr nF ha⟩
/-- a list is written: by slot i -/
theorem wr_end {i : Nat} {f : List PV → Option (List PV)} {v : V} (R : Rel K C W H σ fr st) (hv : σ[i]? = some (some v)) (h : ResP K C Wx W H D (wrF fr st i f)) :
    ∃ a us xs ys, v = .ref a ∧ H a = some (.lst us) ∧ Dens K C W H us xs ∧ f xs = some ys ∧ ∀ us', Dens K C W H us' ys → us'.length ≤ sizeLine → D.nx σ (upd H a (.lst us')) := by
  unfold wrF at h
  split at h
  · rename_i xs e
    obtain ⟨a, us, h1, h2, h3, h4⟩ := R.own i xs e
    rw [hv] at h1
    cases h1
    split at h
    · rename_i ys hf
      refine ⟨a, us, xs, ys, rfl, h3, h4, hf, fun us' d hz => ?_⟩
      obtain ⟨x, R'⟩ := R.wr_own e h2 d hz
      exact h _ _ _ x R'
    · exact h.elim
  · rename_i n e
    obtain ⟨w, h1, h2⟩ := R.slt i _ e
    rw [hv] at h1
    cases h1
    cases h2 with
    | ref hr =>
      rename_i a
      split at h
      · rename_i xs hx
        obtain ⟨b, us, g1, g2, g3⟩ := R.s.str n xs hx
        rw [hr] at g1
        cases g1
        split at h
        · rename_i ys hf
          refine ⟨a, us, xs, ys, rfl, g2, g3, hf, fun us' d hz => ?_⟩
          obtain ⟨x, R'⟩ := R.wr_ref hr d hz
          exact h _ _ _ x R'
        · exact h.elim
      · exact h.elim
  · exact h.elim
/-- a new list for the store -/
theorem RelS.grow {a : Addr} {us : List V} {xs : List PV} (R : RelS K C W H st) (e : H a = some (.lst us)) (d : Dens K C W H us xs) (n1 : ¬ W.F a) (n2 : ∀ n, W.r n ≠ some a) (n3 : ∀ i, W.o i ≠ some a) :
    RelS K C { W with r := putO W.r st.length a } H (st ++ [xs]) := by
  have hr : ∀ n b, putO W.r st.length a n = some b → (n = st.length ∧ b = a) ∨ (n < st.length ∧ W.r n = some b) := fun n b z => by
    by_cases q : n = st.length
    · subst q
      rw [putO_same] at z
      cases z
      exact .inl ⟨rfl, rfl⟩
    · rw [putO_ne q] at z
      exact .inr ⟨R.rn n b z, z⟩
  have mono : ∀ {vs : List V} {zs : List PV}, Dens K C W H vs zs → Dens K C { W with r := putO W.r st.length a } H vs zs := fun d => d.mono (W := W) (W' := { W with r := putO W.r st.length a }) (fun _ z => z) (fun n b z => by
    show putO W.r st.length a n = some b
    rw [putO_ne (Nat.ne_of_lt (R.rn n b z))]
    exact z) fun _ _ z _ => z
  refine ⟨⟨fun n b z => ?_, R.sep.ol, R.sep.Fs, fun b n f z => ?_, R.sep.Fo, fun n i b z y => ?_, fun n m b z y => ?_, R.sep.oo⟩, R.sz, fun n zs z => ?_, fun n b z => ?_⟩
  · rcases hr n b z with ⟨_, rfl⟩ | ⟨_, z⟩
    · exact ⟨us, e⟩
    · exact R.sep.rl n b z
  · rcases hr n b z with ⟨_, rfl⟩ | ⟨_, z⟩
    · exact n1 f
    · exact R.sep.Fr b n f z
  · rcases hr n b z with ⟨_, rfl⟩ | ⟨_, z⟩
    · exact n3 i y
    · exact R.sep.ro n i b z y
  · rcases hr n b z with ⟨q1, q2⟩ | ⟨_, z1⟩ <;> rcases hr m b y with ⟨q3, q4⟩ | ⟨_, y1⟩
    · rw [q1, q3]
    · subst q2
      exact absurd y1 (n2 m)
    · subst q4
      exact absurd z1 (n2 n)
    · exact R.sep.rr n m b z1 y1
  · by_cases q : n < st.length
    · rw [List.getElem?_append_left q] at z
      obtain ⟨b, ws, h1, h2, h3⟩ := R.str n zs z
      refine ⟨b, ws, ?_, h2, mono h3⟩
      show putO W.r st.length a n = some b
      rw [putO_ne (Nat.ne_of_lt q)]
      exact h1
    · have hl : n < (st ++ [xs]).length := (List.getElem?_eq_some_iff.mp z).1
      rw [List.length_append, List.length_singleton] at hl
      have hn : n = st.length := by omega
      subst hn
      rw [List.getElem?_append_right (Nat.le_refl _), Nat.sub_self] at z
      cases z
      exact ⟨a, us, putO_same, e, mono d⟩
  · rw [List.length_append, List.length_singleton]
    rcases hr n b z with ⟨rfl, _⟩ | ⟨z, _⟩ <;> omega
theorem end_retF {xs : List PV} (h : ResP K C Wx W H D (.rt (.ref st.length) (st ++ [xs]))) (x : Ext W H W1 H1) (o : W1.o = W.o) (R : Rel K C W1 H1 σ fr st) (e : H1 a = some (.lst us)) (d : Dens K C W1 H1 us xs)
    (n1 : ¬ W1.F a) (n2 : ∀ n, W1.r n ≠ some a) (n3 : ∀ i, W1.o i ≠ some a) (hn : H a = none) : D.rt (.ref a) H1 := by
  refine h { W1 with r := putO W1.r st.length a } H1 _ ⟨fun b u e q1 q2 => x.kp b u e q1, x.th, x.F, fun b f => (x.Fn b f).elim .inl fun z => .inr (.inr z), fun n b z => ?_, fun n b z => ?_, fun j b z => .inl ⟨j, by rw [← o]; exact z⟩⟩ (R.s.grow e d n1 n2 n3) (.ref putO_same)
  · have q := x.r n b z
    show putO W1.r st.length a n = some b
    rw [putO_ne (Nat.ne_of_lt (R.s.rn n b q))]
    exact q
  · have z : putO W1.r st.length a n = some b := z
    by_cases q : n = st.length
    · subst q
      rw [putO_same] at z
      cases z
      exact .inr (.inr hn)
    · rw [putO_ne q] at z
      exact (x.rn n b z).elim .inl fun y => .inr (.inr y)

/-! ### loops -/
/-- what holds ahead of each turn of a for -/
structure TurnF (K : PySem.W.Frag) (C : Nat → Addr) (t : T) (body : Frm → Sto → Res) (fin : Res) (W1 : Wd) (H1 : Hp) (xs : List PV) (i : Nat) (σ : St) (H : Hp) : Prop where
  ex : ∃ W fr st, ExtS W1 H1 W H ∧ Rel K C W H σ fr st ∧ forRun t body (xs.drop i) fr st = fin
theorem for_loop {t : T} {body : Frm → Sto → Res} {J : It} {fr1 : Frm} {st1 : Sto} (R1 : Rel K C W1 H1 σ fr1 st1) (wk : WalkOk K C W1 H1 J xs) (h : ResP K C Wx W1 H1 D (forRun t body xs fr1 st1)) :
    ∃ V : Nat → Nat → St → Hp → Prop, (∃ m, V 0 m σ H1) ∧ ∀ i m σ H, V i m σ H →
      (J.stop i H ∧ D.nx σ H) ∨ (J.go i H ∧ ∃ N : St → Hp → Prop, (∀ σ' H', N σ' H' → ∃ m', m' < m ∧ V (i + 1) m' σ' H') ∧ ∀ x H', J.yld i H x H' → gOf K t x σ H' fun σ2 H2 => tSt K C Wx body { D with nx := N, ct := N, bk := D.nx } σ2 H2) := by
  obtain ⟨G, Y, w, hG, hY⟩ := wk.ex
  obtain ⟨fin, hfin⟩ : ∃ fin, forRun t body xs fr1 st1 = fin := ⟨_, rfl⟩
  rw [hfin] at h
  refine for_it w (TurnF K C t body fin W1 H1 xs) ⟨W1, fr1, st1, ExtS.refl _ _, R1, hfin⟩ ?_ ?_ ?_
  · rintro i σ2 H2 _ ⟨W2, fr2, st2, x2, _⟩
    exact hG W2 H2 x2
  · rintro i x σ2 H2 H3 hi ⟨W2, fr2, st2, x2, R2, run2⟩ y
    obtain ⟨p, hp, dp, x3, s3, z3⟩ := hY W2 H2 i x H3 x2 R2.s.sep R2.s.sz y
    have hdrop : xs.drop i = p :: xs.drop (i + 1) := by
      obtain ⟨hl, rfl⟩ := List.getElem?_eq_some_iff.mp hp
      exact List.drop_eq_getElem_cons hl
    rw [hdrop] at run2
    unfold forRun at run2
    cases ha : asg t p fr2 with
    | none =>
      rw [ha] at run2
      rw [← run2] at h
      exact h.elim
    | some fr3 =>
      rw [ha] at run2
      dsimp only at run2
      have R3 : RelS K C W2 H3 st2 := R2.s.all x3 s3 z3
      have e3 : Ext W2 H2 W2 H3 := Ext.all x3
      have R3' : Rel K C W2 H3 σ2 fr2 st2 := R2.ext e3 rfl R3
      refine asg_ok ha dp R3'.slots fun σ3 sl l3 k3 => ?_
      have Ri := sl.rel R3
      have xx : ExtS W1 H1 (W2.withO (onlyO W2 fr3)) H3 := (x2.trans (e3.toS rfl)).trans onlyS
      refine ⟨_, fr3, st2, Ri, ?_⟩
      cases hb : body fr3 st2 with
      | nx fr4 st4 =>
        rw [hb] at run2
        exact fun W' H' σ' x' R' => ⟨W', fr4, st4, xx.trans x', R', run2⟩
      | ct fr4 st4 =>
        rw [hb] at run2
        exact fun W' H' σ' x' R' => ⟨W', fr4, st4, xx.trans x', R', run2⟩
      | bk fr4 st4 =>
        rw [hb] at run2
        rw [← run2] at h
        exact fun W' H' σ' x' R' => h W' H' σ' (xx.trans x') R'
      | rt p4 st4 =>
        rw [hb] at run2
        rw [← run2] at h
        exact fun W' H' v x' R' d => h W' H' v (xx.trans x') R' d
      | ex c4 p4 fr4 st4 =>
        rw [hb] at run2
        rw [← run2] at h
        exact fun W' H' σ' cls d x' R' e => h W' H' σ' cls d (xx.trans x') R' e
      | bad =>
        rw [hb] at run2
        rw [← run2] at h
        exact h.elim
  · rintro σ2 H2 ⟨W2, fr2, st2, x2, R2, run2⟩
    rw [List.drop_length] at run2
    unfold forRun at run2
    rw [← run2] at h
    exact h W2 H2 σ2 x2 R2
/-- .. of a while -/
structure TurnW (K : PySem.W.Frag) (C : Nat → Addr) (tst : Frm → Sto → Out Bool) (body : Frm → Sto → Res) (fin : Res) (W1 : Wd) (H1 : Hp) (m : Nat) (σ : St) (H : Hp) : Prop where
  ex : ∃ W fr st, ExtS W1 H1 W H ∧ Rel K C W H σ fr st ∧ whlRun tst body m fr st = fin
theorem whl_loop {tst : Frm → Sto → Out Bool} {body : Frm → Sto → Res} {n : Nat} (h : tSt K C Wx (whlRun tst body n) D σ H) :
    tWhile (tT K C Wx tst) (tSt K C Wx body) D σ H := by
  obtain ⟨W1, fr1, st1, R1, h⟩ := h
  obtain ⟨fin, hfin⟩ : ∃ fin, whlRun tst body n fr1 st1 = fin := ⟨_, rfl⟩
  rw [hfin] at h
  refine ⟨TurnW K C tst body fin W1 H, ⟨n, W1, fr1, st1, ExtS.refl _ _, R1, hfin⟩, ?_⟩
  rintro m σ2 H2 ⟨W2, fr2, st2, x2, R2, run2⟩
  cases m with
  | zero =>
    unfold whlRun at run2
    rw [← run2] at h
    exact h.elim
  | succ m =>
    unfold whlRun at run2
    rw [← run2] at h
    refine ⟨W2, fr2, st2, R2, ?_⟩
    have h := ResP.shift h x2
    cases hb : tst fr2 st2 with
    | bad =>
      rw [hb] at h
      exact h.elim
    | exc c p st3 =>
      rw [hb] at h
      exact fun W' H' cls d x o R e => h W' H' σ2 cls d (x.toS o) R e
    | ok b st3 =>
      rw [hb] at h run2
      intro W3 H3 x3 o3 R3
      have h := ResP.shift h (x3.toS o3)
      have xx : ExtS W1 H W3 H3 := x2.trans (x3.toS o3)
      cases b with
      | false =>
        simp only [Bool.false_eq_true, if_false, Out.res_ok] at h ⊢
        exact h W3 H3 σ2 (ExtS.refl _ _) R3
      | true =>
        simp only [if_true, Out.res_ok] at h run2 ⊢
        refine ⟨fun σ' H' => TurnW K C tst body fin W1 H m σ' H', fun σ' H' z => ⟨m, Nat.lt_succ_self m, z⟩, W3, fr2, st3, R3, ?_⟩
        cases hc : body fr2 st3 with
        | nx fr4 st4 =>
          rw [hc] at run2
          exact fun W' H' σ' x' R' => ⟨W', fr4, st4, xx.trans x', R', run2⟩
        | ct fr4 st4 =>
          rw [hc] at run2
          exact fun W' H' σ' x' R' => ⟨W', fr4, st4, xx.trans x', R', run2⟩
        | bk fr4 st4 =>
          rw [hc] at h
          exact fun W' H' σ' x' R' => h W' H' σ' x' R'
        | rt p4 st4 =>
          rw [hc] at h
          exact fun W' H' v x' R' d => h W' H' v x' R' d
        | ex c4 p4 fr4 st4 =>
          rw [hc] at h
          exact fun W' H' σ' cls d x' R' e => h W' H' σ' cls d x' R' e
        | bad =>
          rw [hc] at h
          exact h.elim
end
end Rm
set_option Elab.async false
set_option linter.all false
set_option maxHeartbeats 8000000
/-! A caught error, kept. -/
namespace Rm
open PySem PySem.Spec L2
section
variable {X : Cx} {pins : List (Addr × Obj)} {σ : St} {H : Hp} {s : Shared}
/-- what is known of an error's object -/
def excP (a : Addr) (cls : Value) (d : Option Addr) : Heap → Prop := fun h => ∃ oe vs, h.get? a = some oe ∧ oe.cls = cls ∧ oe.dict = d ∧ oe.data = .fields vs
theorem Inv.tag {a : Addr} {φ : Heap → Prop} (I : Inv X pins σ H s) (na : H a = none) (h0 : X.s_0.heap.get? a = none) (nL : a ≠ X.env.locals) (nc : ∀ x c, X.env.cells.lookup x = some c → c ≠ a) (np : ∀ p ∈ X.pn ++ pins, p.1 ≠ a)
    (ok : ObjOk X.prog X.w (upd H a (.ext φ)) s.heap a (.ext φ)) : Inv X pins σ (upd H a (.ext φ)) s := by
  have ne : ∀ {b : Addr} {o : HO}, H b = some o → (upd H a (.ext φ)) b = some o := fun e => by
    rw [upd_ne (ne_of_none e na)]
    exact e
  refine ⟨I.ok, I.os, I.bare, ⟨I.base.keep, I.base.slot, fun b o e n hx => ?_, I.base.there, fun b xs e => ne (I.base.tups b xs e), fun b o u e => ne (I.base.frzs b o u e), fun b ps e => ?_⟩, I.loc, I.cell, ?_, fun x c e => ?_, fun p hp => ?_, fun b u e => ?_, I.len⟩
  · rw [upd_ne (fun z => by subst z; rw [h0] at e; cases e)]
    exact I.base.free b o e n hx
  · obtain ⟨more, q⟩ := I.base.tbls b ps e
    exact ⟨more, ne q⟩
  · rw [upd_ne (Ne.symm nL)]
    exact I.free
  · rw [upd_ne (nc x c e)]
    exact I.freeC x c e
  · obtain ⟨h1, h2, h3⟩ := I.pin p hp
    exact ⟨h1, by rw [upd_ne (np p hp)]; exact h2, h3⟩
  · by_cases hb : b = a
    · subst hb
      rw [upd_same] at e
      cases e
      exact ok
    · rw [upd_ne hb] at e
      exact (I.hok b u e).stay (fun _ _ _ q => q) (fun _ q => ne q) fun _ _ q => ne q
end
/-- what «except x as n: m = n» wishes of an error of the body -/
def wCaught (K : PySem.W.Frag) (c : Value) (i j : Nat) (Wout : WX) (D : Ends) : WX := fun cls d σ H =>
  ∃ b, PySem.W.exmOne K cls c = some b ∧ (b = true → ∀ a, H a = none → D.nx ((σ.set j (some (.ref a))).set i none) (upd H a (.ext (excP a cls d)))) ∧ (b = false → Wout cls d σ H)
section
variable {X : Cx} {x n m : Str} {c : Value} {i j : Nat} {body : List Stmt} {q1 q2 q3 q4 pos pos' : Pos} {tb : WX → TS} {Wout : WX}
theorem ps_caught (hs : X.stack = X.env :: X.outer) (hf : X.env.frame = some X.env.locals) (hex : X.ex = []) (nd : X.N.Nodup) (hi : X.N[i]? = some n) (hj : X.N[j]? = some m) (hij : i ≠ j) (hn : X.env.scope.names.lookup n = some .local) (hm : X.env.scope.names.lookup m = some .local)
    (n1 : (n == ("__debug__" : Str)) = false) (n2 : (n == ("__classdict__" : Str)) = false) (hc : Names X x c) (tk : Takes X Wout)
    (hb : ∀ (W : WX) (pn : List (Addr × Obj)) (xe : Value → Shared → Prop), Takes (X.tr pn xe) W → PassesOwn (model X.prog X.w) X.A X.env xe → PSs (X.tr pn xe) body (tb W)) :
    PS X (.Try body [.ExceptHandler (some (.Name x q1)) (some n) [.Assign [.Name m q2] (.Name n q3) q4] pos'] [] [] pos) (fun D σ H => tb (wCaught X.K c i j Wout D) D σ H) := by
  refine ⟨fun pins s σ H D I h => ?_⟩
  have okX := I.ok
  have frm : X.A.frames = some (X.env :: X.outer) := by rw [okX.frames, hs]
  have kn : X.env.kindOf n = some .local := hn
  refine wpAny_Try_except (wpAny_mono ((hb (wCaught X.K c i j Wout D) (X.pn ++ pins) (fun e t1 => wpAny (model X.prog X.w) X.A (noteFrame e X.env) (fun _ t2 => wpAny (model X.prog X.w) X.A (setFlight e none)
    (fun _ t3 => wpAny (model X.prog X.w) X.A (handleBy e X.env [.ExceptHandler (some (.Name x q1)) (some n) [.Assign [.Name m q2] (.Name n q3) q4] pos']) (SP X pins D) X.xe t3) X.xe t2) X.xe t1)
    (fun u t xx => ?_) PassesOwn.looking).run [] s σ H D (I.toTry _) h) (fun f t hsp => ?_) fun _ _ z => z)
  · obtain ⟨a, B, sI, pl, σ1, H1, cls, d, rfl, Jt, nb, up, sky, na, os, ag, b, hb1, yes, no⟩ := xx
    have J : Inv X pins σ1 H1 sI := Jt.ofTry okX
    have skyE : Sky B (X.env :: X.outer) a (Zc cls d) X.env.locals t.heap := by rw [← hs]; exact sky
    have hBa : B.get? a = none := by
      rcases sky with z | z | z
      · exact z.2.1
      · exact z.2.1
      · exact z.2.1
    show wpAny (model X.prog X.w) X.A (noteFrame (.ref a) X.env) _ _ _
    refine Sky.land Zc.steady frm hf skyE fun ha fla upa => ?_
    obtain ⟨oa, va, ga, za, da⟩ := fla.there
    have nofr : a ∉ frs (X.env :: X.outer) := fun hm => by
      obtain ⟨_, o', e', nf⟩ := fla.2.2.1.mem hm
      rw [ga] at e'
      cases e'
      exact nf _ da
    have nL : a ≠ X.env.locals := fun z => nofr (List.mem_filterMap.mpr ⟨X.env, List.mem_cons_self, by rw [hf, z]⟩)
    have nF : a ∉ X.fs := fun hm => by
      obtain ⟨e, he, q⟩ := List.mem_filterMap.mp hm
      exact nofr (List.mem_filterMap.mpr ⟨e, List.mem_cons_of_mem _ he, q⟩)
    have gI : sI.heap.get? a = none := by
      cases q : sI.heap.get? a with
      | none => rfl
      | some o =>
        have := nb a o q (by rw [hs]; exact nofr)
        rw [hBa] at this
        cases this
    have g0 : X.s_0.heap.get? a = none := by
      cases q : X.s_0.heap.get? a with
      | none => rfl
      | some o =>
        obtain ⟨o', e⟩ := J.base.there a o q (by rw [hex]; simp)
        rw [gI] at e
        cases e
    have npin : ∀ p ∈ X.pn ++ pins, p.1 ≠ a := fun p hp z => by
      have := (J.pin p hp).1
      rw [z, gI] at this
      cases this
    have Ja : Inv X pins σ1 H1 { t with heap := ha } := J.landed nb fla.1 (up.trans upa) os ag
    have Sa := Ja.suite ga da na nL nF
    refine wpAny_handleBy_cons (codeAny_handlers_test ?_) (by intro q; cases q)
    have lkT : PySem.W.Looks (model X.prog X.w) ha (typeOf (.ref a)) cls := fun A Q E s k q => wpAny_typeOf_ref (k _ _ ga) (by rw [za.1]; exact q)
    have lkM := PySem.W.exm_one (M := model X.prog X.w) Ja.kIn lkT hb1
    have look : ∀ {Q : Value → Shared → Prop} {E : Value → Shared → Prop}, Q c { t with heap := ha } → wpAny (model X.prog X.w) (X.A.mark (some (.ref a))) (eval (.Name x q1) X.env) Q E { t with heap := ha } := fun {Q E} q => by
      obtain ⟨hg, hd, hmg | ⟨hmg, hv, hnn⟩⟩ := hc
      · exact ld_glob (X := X.suite a ((a, oa) :: (X.pn ++ pins))) Sa hg hmg q hd
      · exact ld_blt (X := X.suite a ((a, oa) :: (X.pn ++ pins))) Sa hg hmg hv q hnn hd
    refine look (lkM.here ?_)
    cases b with
    | true =>
      refine codeAny_handlers_suite_as (HandSPX.lands_againZ fla fun hz flz upz => ?_)
      obtain ⟨oz, vz, gz, zz, dz⟩ := flz.there
      have Jz : Inv X pins σ1 H1 { t with heap := hz } := J.landed nb flz.1 ((up.trans upa).trans upz) os ag
      have Sz := Jz.suite gz dz na nL nF
      refine store_ok (X := X.suite a ((a, oz) :: (X.pn ++ pins))) (v := .ref a) Sz nd hi (.inl hn) rfl (fun t5 S5 => ?_) (.inr hn)
      have put : PSs (X.suite a ((a, oz) :: (X.pn ++ pins))) [.Assign [.Name m q2] (.Name n q3) q4] (tAsg (tVar i) (gName j)) :=
        pss_one (ps_set (X := X.suite a ((a, oz) :: (X.pn ++ pins))) nd hj (.inl hm) (pe_var hi (.inl hn) n1 n2) rfl (.inr hm))
      have hil : i < σ1.length := by
        rw [J.len]
        exact (List.getElem?_eq_some_iff.mp hi).1
      refine wpAny_mono (put.run [] t5 _ H1 { nx := fun σ' H' => σ' = (σ1.set i (some (.ref a))).set j (some (.ref a)) ∧ H' = H1, rt := fun _ _ => False } S5 ⟨.ref a, by rw [List.getElem?_set_self hil], rfl, rfl⟩) (fun f t6 hsp => ?_) fun _ _ z => False.elim z
      cases f with
      | next =>
        obtain ⟨σ6, H6, S6, rfl, rfl⟩ := hsp
        show wpAny (model X.prog X.w) X.A (do bindName X.env n .none; unbindBehindTheSuite X.env n pos') _ _ _
        refine gone_ok (X := X.suite a ((a, oz) :: (X.pn ++ pins))) S6 nd hi kn fun t7 S7 => ?_
        have g7 : t7.heap.get? a = some oz := (S7.pin (a, oz) (by simp)).1
        have J7 : Inv X pins _ H6 t7 := S7.unsuite okX
        refine ⟨_, _, Rm.Inv.tag J7 na g0 nL (fun y k e z => ?_) npin ?_, by rw [List.set_comm _ _ hij, List.set_set]; exact yes rfl a na⟩
        · obtain ⟨v, ck⟩ := J7.cell y k e
          rw [z] at ck
          obtain ⟨o', e', q'⟩ := ck
          rw [g7] at e'
          cases e'
          rw [dz] at q'
          cases q'
        · exact ⟨⟨oz, vz, g7, zz.1, zz.2, dz⟩, ⟨oz, g7⟩, fun h1 h2 ⟨o, vs, e1, r⟩ k => ⟨o, vs, k o e1, r⟩⟩
      | brk =>
        obtain ⟨_, _, _, z⟩ := hsp
        exact z.elim
      | cont =>
        obtain ⟨_, _, _, z⟩ := hsp
        exact z.elim
      | ret u =>
        obtain ⟨_, _, _, _, _, z⟩ := hsp
        exact z.elim
    | false =>
      show wpAny _ X.A (handleBy (.ref a) X.env []) _ _ _
      refine wpAny_handleBy_nil ?_
      obtain ⟨_, _, _, oe, ve, T, oT, ts, he, hz, hd, h1, hr⟩ := id fla
      unfold PySem.passOn
      refine wpAny_bind (wpAny_field he hd h1 ?_)
      rw [if_neg (show ¬ ((Value.ref T == Value.none) = true) from by simp)]
      have go : wpAny (model X.prog X.w) X.A (setFlight (.ref a) X.env.frame) (fun _ t4 => wpAny (model X.prog X.w) X.A (throw (.ref a) : Sem Flow) (SP X pins D) X.xe t4) X.xe { t with heap := ha } := by
        rw [hf]
        refine HandSPX.setFlight_upZ fla fun hq fq uq => wpAny_throw (tk _ _ ⟨a, B, sI, pins, σ1, H1, cls, d, rfl, J, nb, (up.trans upa).trans uq, .inr (.inr ?_), na, os, ag, no rfl⟩)
        rw [hs]
        exact fq
      first
        | exact wpAny_bind (wpAny_pure (wpAny_bind go))
        | exact wpAny_bind go
  · cases f with
    | next =>
      obtain ⟨τ, G, J, q⟩ := hsp
      exact wpAny_execs_nil ⟨τ, G, J.ofTry okX, q⟩
    | brk =>
      obtain ⟨τ, G, J, q⟩ := hsp
      exact ⟨τ, G, J.ofTry okX, q⟩
    | cont =>
      obtain ⟨τ, G, J, q⟩ := hsp
      exact ⟨τ, G, J.ofTry okX, q⟩
    | ret u =>
      obtain ⟨v, τ, G, J, r, q⟩ := hsp
      exact ⟨v, τ, G, J.ofTry okX, r, q⟩
end
end Rm
set_option Elab.async false
set_option linter.all false
set_option maxHeartbeats 8000000
/-! Which statement of the small language stands for which of the text's. -/
namespace Rm
open PySem PySem.Spec L2
theorem fm_lt {α β : Type} {f : α → Option β} : ∀ {l : List α} {x : α}, x ∈ l → f x = none → (l.filterMap f).length < l.length
  | y :: l, x, h, e => by
    rcases List.mem_cons.mp h with rfl | h
    · rw [List.filterMap_cons_none e]
      exact Nat.lt_succ_of_le (List.length_filterMap_le _ _)
    · have := fm_lt h e
      cases q : f y with
      | none =>
        rw [List.filterMap_cons_none q]
        exact Nat.lt_succ_of_lt this
      | some z =>
        rw [List.filterMap_cons_some q]
        exact Nat.succ_lt_succ this
theorem sw_fold {ts vs : List Expr} {k k2 : Nat} {p p2 : Pos} {env : Env} (h : vs.all (foldedForSure 8) = true) : swappedStores [.Tuple ts k p] (.Tuple vs k2 p2) env = pure none := by
  unfold swappedStores
  dsimp only
  simp only [h, if_true]
  repeat' split
  all_goals rfl
theorem sw_cell {ts vs : List Expr} {k k2 : Nat} {p p2 : Pos} {env : Env} {x : Expr} (hx : x ∈ ts) (h : (match x with | .Name id _ => env.kindOf id == some .local | _ => false) = false) : swappedStores [.Tuple ts k p] (.Tuple vs k2 p2) env = pure none := by
  unfold swappedStores
  dsimp only
  split
  · rfl
  · split
    · rfl
    · rw [if_pos]
      rw [Bool.or_eq_true]
      refine .inl ?_
      refine bne_iff_ne.mpr (Nat.ne_of_lt (fm_lt hx ?_))
      cases x <;> first | rfl | skip
      dsimp only at h ⊢
      rw [h]
      rfl
theorem sw_two {x y : Str} {px py : Pos} {a b : Expr} {k k2 : Nat} {p p2 : Pos} {env : Env} (hk : env.scope.kind = .function) (hx : env.scope.names.lookup x = some .local) (hy : env.scope.names.lookup y = some .local) (hl : (py.line == px.line) = true) (hxy : x ≠ y)
    (ha : noStar a = true) (hb : noStar b = true) (hf : ([a, b].all (foldedForSure 8)) = false) (hc : ([a, b].all (constantsAlone 8)) = false) : swappedStores [.Tuple [.Name x px, .Name y py] k p] (.Tuple [a, b] k2 p2) env = pure (some [x, y]) := by
  have bk : env.blockKind = .function := by unfold Env.blockKind; rw [hk]; rfl
  have kx : env.kindOf x = some .local := hx
  have ky : env.kindOf y = some .local := hy
  have st : ∀ e : Expr, noStar e = true → (match e with | .Starred .. => true | _ => false) = false := fun e h => by
    cases e <;> first | rfl | exact nomatch (show false = true from h)
  have hst : ([a, b].any fun | .Starred .. => true | _ => false) = false := by
    rw [List.any_cons, List.any_cons, List.any_nil, st a ha, st b hb]
    rfl
  have e1 : ((.local : NameKind) == .local) = true := rfl
  unfold swappedStores
  simp only [bk, hst, hf, hc, kx, ky, List.length_cons, List.length_nil, List.filterMap_cons, List.filterMap_nil, List.head?_cons, Option.map_some, Option.getD_some, Expr.pos, hl, beq_self_eq_true, Bool.and_self, Bool.and_true, Bool.true_and, if_true]
  have hyx : ¬ y = x := Ne.symm hxy
  simp [List.eraseDups_cons, hxy, hyx]
  intro h
  rcases h with h | h
  · cases (st a ha).symm.trans h
  · cases (st b hb).symm.trans h

def isFresh : E → Bool
  | .bin _ _ _ | .lst _ | .slc _ _ _ | .rev _ | .blt _ _ | .comp _ _ _ _ _ => true
  | _ => false
/-- a name that may be stored -/
def stoN (c : Ctx) (x : Str) : Bool := (match c.sc.names.lookup x with | some .local => true | _ => false) || (c.fn x && (match c.sc.names.lookup x with | some .cell => true | _ => false))
def locN (c : Ctx) (x : Str) : Bool := match c.sc.names.lookup x with
  | some .local => true
  | _ => false
def notLc : Expr → Bool
  | .ListComp _ _ _ _ | .SetComp _ _ _ _ | .DictComp _ _ _ _ _ => false
  | _ => true
/-- no stores from the right -/
def plainT (c : Ctx) : Expr → Expr → Bool
  | .Tuple ts _ _, .Tuple vs _ _ => vs.all (foldedForSure 8) || ts.any fun | .Name id _ => !(c.sc.names.lookup id == some .local) | _ => true
  | .Tuple _ _ _, .List _ _ => true
  | .Tuple _ _ _, _ => true
  | _, _ => false
/-- except .. as n: m = n2 -/
def tryOf (hs : List ExceptHandler) (oe fb : List Stmt) : Option (Str × Str × Str × Str) := match hs, oe, fb with
  | [.ExceptHandler (some (.Name cn _)) (some n) [.Assign [.Name m _] (.Name n2 _) _] _], [], [] => some (cn, n, m, n2)
  | _, _, _ => none
theorem tryOf_ok {hs : List ExceptHandler} {oe fb : List Stmt} {cn n m n2 : Str} (h : tryOf hs oe fb = some (cn, n, m, n2)) :
    ∃ q1 q2 q3 q4 p, hs = [.ExceptHandler (some (.Name cn q1)) (some n) [.Assign [.Name m q2] (.Name n2 q3) q4] p] ∧ oe = [] ∧ fb = [] := by
  unfold tryOf at h
  split at h
  · simp only [Option.some.injEq, Prod.mk.injEq] at h
    obtain ⟨rfl, rfl, rfl, rfl⟩ := h
    exact ⟨_, _, _, _, _, rfl, rfl, rfl⟩
  · cases h
/-- x, y = u, v -/
def parOf (tgs : List Expr) (v : Expr) : Option (Str × Pos × Str × Pos × Expr × Expr) := match tgs, v with
  | [.Tuple [.Name x px, .Name y py] _ _], .Tuple [u, v] _ _ => some (x, px, y, py, u, v)
  | _, _ => none
theorem parOf_ok {tgs : List Expr} {w u v : Expr} {x y : Str} {px py : Pos} (h : parOf tgs w = some (x, px, y, py, u, v)) : ∃ k1 p1 k2 p2, tgs = [.Tuple [.Name x px, .Name y py] k1 p1] ∧ w = .Tuple [u, v] k2 p2 := by
  unfold parOf at h
  split at h
  · simp only [Option.some.injEq, Prod.mk.injEq] at h
    obtain ⟨rfl, rfl, rfl, rfl, rfl, rfl⟩ := h
    exact ⟨_, _, _, _, rfl, rfl⟩
  · cases h
mutual
def m1 : S → Stmt → Ctx → Bool
  | .set i e, .Assign [.Name x _] v _, c => decide (c.N[i]? = some x) && stoN c x && mE e v c
  | .own i e, .Assign [.Name x _] v _, c => decide (c.N[i]? = some x) && stoN c x && isFresh e && mE e v c
  | .tgt t e, .Assign [tg] v _, c => plainT c tg v && mT c tg t && mE e v c
  | .par i j a b, .Assign tgs w _, c => match parOf tgs w with
    | some (x, px, y, py, u, v) => decide (c.N[i]? = some x) && decide (c.N[j]? = some y) && decide (i ≠ j) && locN c x && locN c y && (py.line == px.line) && decide (x ≠ y) && noStar u && noStar v &&
      !([u, v].all (foldedForSure 8)) && !([u, v].all (constantsAlone 8)) && mE a u c && mE b v c
    | none => false
  | .aug i op e, .AugAssign (.Name x _) o v _, c => decide (opA op = o) && (decide (op = .add) || decide (op = .sub)) && decide (c.N[i]? = some x) && stoN c x && mE e v c
  | .app i e, .Expr (.Call (.Attribute (.Name x _) nm ap) [v] [] cp) _, c => decide (nm = "append") && decide (c.N[i]? = some x) && isVis c.sc x && plainN x && (ap.endLine == cp.line) && noStar v && mE e v c
  | .sto i k e, .Assign [.Subscript (.Name x _) kx _] v _, c => decide (c.N[i]? = some x) && isVis c.sc x && plainN x && noSlice kx && mE k kx c && mE e v c
  | .xpr e, .Expr v _, c => notLc v && mE e v c
  | .doc, .Expr (.Constant (.str _) _ _) _, _ => true
  | .doc, .Pass _, _ => true
  | .ret e, .Return (some v) _, c => mE e v c
  | .retN, .Return none _, _ => true
  | .retF e, .Return (some v) _, c => isFresh e && mE e v c
  | .ite d a b, .If v x y _, c => mE d v c && mB a x c && mB b y c
  | .for t i b, .For tg it x [] _, c => mT c tg t && noSet it && mI i tg it c && mB b x c
  | .whl d b, .While v x [] _, c => mE d v c && mB b x c
  | .brk, .Break _, _ => true
  | .cnt, .Continue _, _ => true
  | .rse k l, .Raise (some (.Call (.Name x _) as [] _)) none _, c => glN c x && decide (c.T.cl[k]? = some x) && decide (k ∈ c.T.rs) && !as.isEmpty && as.all noStar && mL l as c
  | .try b k i j, .Try x hs oe fb _, c => mB b x c && match tryOf hs oe fb with
    | some (cn, n, m, n2) => decide (n2 = n) && decide (c.N[i]? = some n) && decide (c.N[j]? = some m) && decide (i ≠ j) && locN c n && locN c m && plainN n && glN c cn && decide (c.T.cl[k]? = some cn)
    | none => false
  | _, _, _ => false
def mB : S → List Stmt → Ctx → Bool
  | .nop, [], _ => true
  | .seq a b, x :: r, c => m1 a x c && mB b r c
  | .frz _ b, xs, c => mB b xs c
  | _, _, _ => false
end

section
variable {C : Nat → Addr} {G : Sig} {n : Nat} {c : Ctx} {Wx : WX} {X : Cx}
structure FitS (c : Ctx) (C : Nat → Addr) (G : Sig) (n : Nat) (Wx : WX) (X : Cx) : Prop extends Fit c C G n Wx X where
  po : PassesOwn (model X.prog X.w) X.A X.env X.xe
  hs : X.stack = X.env :: X.outer
  hf : X.env.frame = some X.env.locals
  hex : X.ex = []
  kd : X.env.scope.kind = .function
theorem FitS.tr {W : WX} {pn : List (Addr × Obj)} {xe : Value → Shared → Prop} (F : FitS c C G n Wx X) (tk : Takes (X.tr pn xe) W) (po : PassesOwn (model X.prog X.w) X.A X.env xe) : FitS c C G n W (X.tr pn xe) where
  N := F.N
  sc := F.sc
  fn := F.fn
  calm := F.calm
  nd := F.nd
  tk := tk
  gd := F.gd
  rm := F.rm
  G := F.G
  po := po
  hs := F.hs
  hf := F.hf
  hex := F.hex
  kd := F.kd
theorem stoN_ok (F : Fit c C G n Wx X) {x : Str} (h : stoN c x = true) : Loc X.env.scope x ∧ (X.fn x = true ∨ X.env.scope.names.lookup x = some .local) := by
  unfold stoN at h
  rw [F.sc]
  rcases (Bool.or_eq_true _ _).mp h with h | h
  · split at h
    · exact ⟨.inl (by assumption), .inr (by assumption)⟩
    · cases h
  · rw [Bool.and_eq_true] at h
    obtain ⟨h1, h2⟩ := h
    split at h2
    · exact ⟨.inr (by assumption), .inl (F.fn x h1)⟩
    · cases h2
theorem locN_ok (F : Fit c C G n Wx X) {x : Str} (h : locN c x = true) : X.env.scope.names.lookup x = some .local := by
  unfold locN at h
  rw [F.sc]
  split at h
  · assumption
  · cases h
/-- fresh results -/
theorem mE_fr {e : E} {a : Expr} (F : Fit c C G n Wx X) (hfr : isFresh e = true) (h : mE e a c = true) : PE X a (tFr X.K C Wx (evE G e)) := by
  cases e <;> first | exact nomatch (show false = true from hfr) | skip
  case bin op e1 e2 =>
    cases a <;> first | exact nomatch (show false = true from h) | skip
    simp only [mE, Bool.and_eq_true, decide_eq_true_eq] at h
    obtain ⟨⟨rfl, h1⟩, h2⟩ := h
    exact pe_rbin (op := op) (mE_ok e1 F h1).1 (mE_ok e2 F h2).1
  case lst l =>
    cases a <;> first | exact nomatch (show false = true from h) | skip
    simp only [mE] at h
    exact pe_rlst (mL_ok l F h)
  case slc e1 lo hi =>
    cases a <;> first | exact nomatch (show false = true from h) | skip
    rename_i x y pos
    cases y <;> first | exact nomatch (show false = true from h) | skip
    rename_i l hh st p2
    cases st <;> first | exact nomatch (show false = true from h) | skip
    simp only [mE, Bool.and_eq_true] at h
    obtain ⟨⟨h0, h1⟩, h2⟩ := h
    have q1 : PO X l (tO X.K C Wx (evO G lo)) := by
      cases l with
      | none =>
        obtain rfl := isNil_ok h1
        exact po_rnone
      | some y => exact po_rsome (fun z => by subst z; exact mE_nil h1) (mE_ok lo F h1).1
    have q2 : PO X hh (tO X.K C Wx (evO G hi)) := by
      cases hh with
      | none =>
        obtain rfl := isNil_ok h2
        exact po_rnone
      | some y => exact po_rsome (fun z => by subst z; exact mE_nil h2) (mE_ok hi F h2).1
    exact pe_rslc (mE_ok e1 F h0).1 q1 q2
  case rev e1 =>
    cases a <;> first | exact nomatch (show false = true from h) | skip
    rename_i x y pos
    cases y <;> first | exact nomatch (show false = true from h) | skip
    rename_i lo hi st p3
    cases lo <;> first | exact nomatch (show false = true from h) | skip
    cases hi <;> first | exact nomatch (show false = true from h) | skip
    cases st <;> first | exact nomatch (show false = true from h) | skip
    rename_i st
    cases st <;> first | exact nomatch (show false = true from h) | skip
    rename_i o st p2
    cases o <;> first | exact nomatch (show false = true from h) | skip
    cases st <;> first | exact nomatch (show false = true from h) | skip
    rename_i k kk p1
    cases k <;> first | exact nomatch (show false = true from h) | skip
    rename_i i
    rcases i with (_ | _ | i) | i <;> first | exact nomatch (show false = true from h) | skip
    have h : mE e1 x c = true := h
    exact pe_rrev (k := kk) (p1 := p1) (p2 := p2) (p3 := p3) (pos := pos) (mE_ok e1 F h).1
  case blt b l =>
    cases a <;> first | exact nomatch (show false = true from h) | skip
    rename_i f as ks pos
    cases f <;> first | exact nomatch (show false = true from h) | skip
    rename_i x p
    cases ks <;> first | exact nomatch (show false = true from h) | skip
    simp only [mE, Bool.and_eq_true, decide_eq_true_eq] at h
    obtain ⟨⟨⟨⟨rfl, h1⟩, h2⟩, h3⟩, h4⟩ := h
    have g := F.gl h1
    cases as with
    | nil => cases h2
    | cons x r => exact pe_rblt F.calm F.hu F.gd g.1 (F.G.blt _ (bltN_in b)) h3 (mL_ok l F h4)
  case comp vs e1 t i d =>
    cases a <;> first | exact nomatch (show false = true from h) | skip
    rename_i x gs scope pos
    rcases gs with _ | ⟨⟨tg, it, ifs, k⟩, _ | ⟨g2, gs⟩⟩ <;> first | exact nomatch (show false = true from h) | skip
    simp only [mE, Bool.and_eq_true, decide_eq_true_eq, List.all_eq_true] at h
    obtain ⟨⟨⟨⟨⟨⟨⟨rfl, h1⟩, h2⟩, h3⟩, h4⟩, h5⟩, h6⟩, h7⟩ := h
    have hown := ownOf_snd c vs
    have q := pe_rcomp (X := X) (C := C) (S := G) (Wx := Wx) (elt := x) (scope := scope) (own := ownOf c vs) (pos := pos) (t := t) (e := e1) (i := i) (c := d) (ifs := ifs) F.calm (by rw [F.N]; exact F.nd) (mI_ok i F h5) (blkOk_by (by rw [F.N, F.sc]; exact h1))
      (fun s H D cl fp => (F.blk scope s H D cl fp).pt h2) (fun s H D cl fp => ?_) (fun s H D cl fp => (mE_ok e1 (F.blk scope s H D cl fp) h6).1) (noSet_f h4 _) (by rw [hown]; exact h3)
    · rw [hown] at q
      exact q
    · rcases ifs with _ | ⟨y, _ | ⟨y2, ifs⟩⟩
      · obtain rfl := isNil_ok h7
        refine ⟨fun pins s σ H Q I hw => pts_nil.run pins s σ H Q I ?_⟩
        obtain ⟨W, fr, st, R, q⟩ := hw
        exact q W H (.refl _ _) rfl R
      · have hn : d ≠ .nil := fun z => by subst z; exact mE_nil h7
        rw [evC_some hn]
        exact pts_one (mE_ok d (F.blk scope s H D cl fp) h7).2
      · cases h7
/-- name = a comprehension on one line -/
theorem mE_lc {x : Str} {i0 : Nat} {px lp spos : Pos} {e : E} {elt : Expr} {gs : List Comprehension} {scope : Scope} (F : FitS c C G n Wx X) (hi0 : X.N[i0]? = some x) (hx : X.env.scope.names.lookup x = some .local)
    (hsw : swapsWith (.ListComp elt gs scope lp) (some (.Name x px)) spos.line X.env = pure true) (h : mE e (.ListComp elt gs scope lp) c = true) :
    PS X (.Assign [.Name x px] (.ListComp elt gs scope lp) spos) (fun D σ H => tFr X.K C Wx (evE G e) σ H fun v H1 => Sz H1 → D.nx (σ.set i0 (some v)) H1) := by
  cases e <;> first | exact nomatch (show false = true from h) | skip
  case isi a ts => rcases ts with _ | ⟨t, _ | ⟨t2, ts⟩⟩ <;> exact nomatch (show false = true from h)
  rename_i vs e1 t i d
  rcases gs with _ | ⟨⟨tg, it, ifs, k⟩, _ | ⟨g2, gs⟩⟩ <;> first | exact nomatch (show false = true from h) | skip
  simp only [mE, Bool.and_eq_true, decide_eq_true_eq, List.all_eq_true] at h
  obtain ⟨⟨⟨⟨⟨⟨⟨rfl, h1⟩, h2⟩, h3⟩, h4⟩, h5⟩, h6⟩, h7⟩ := h
  have hown := ownOf_snd c vs
  have q := ps_setLc (X := X) (i := i0) (y := x) (py := px) (spos := spos) (elt := elt) (scope := scope) (own := ownOf c vs) (pos := lp) (ifs := ifs) F.calm (by rw [F.N]; exact F.nd) hi0 hx hsw (mI_ok (S := G) i F.toFit h5) (blkOk_by (by rw [F.N, F.sc]; exact h1))
    (fun s H D cl fp => (F.toFit.blk scope s H D cl fp).pt h2) (tt := tT X.K C W0 (evC G d)) (te := tE X.K C W0 (evE G e1)) (g := gOf X.K t) (wi := tI X.K C Wx (evI G i)) (fun s H D cl fp => ?_) (fun s H D cl fp => (mE_ok e1 (F.toFit.blk scope s H D cl fp) h6).1) (noSet_f h4 _)
  · refine ⟨fun pins s σ H D I q2 => ?_⟩
    have hsub : ∀ j ∈ slotsT t, j ∈ vs := h3
    refine wpAny_mono (q.run pins s σ H { D with nx := fun σ' H' => Sz H' → D.nx σ' H' } I ?_) (fun f s1 hsp => ?_) fun _ _ z => z
    · rw [hown]
      exact comp_t (X := X) hsub (Q := fun v H1 => Sz H1 → D.nx (σ.set i0 (some v)) H1) q2
    · cases f with
      | next =>
        obtain ⟨σ1, H1, I1, q1⟩ := hsp
        exact ⟨σ1, H1, I1, q1 (Inv.sz' I1)⟩
      | ret v => exact hsp
      | brk => exact hsp
      | cont => exact hsp
  · rcases ifs with _ | ⟨y, _ | ⟨y2, ifs⟩⟩
    · obtain rfl := isNil_ok h7
      refine ⟨fun pins s σ H Q I hw => pts_nil.run pins s σ H Q I ?_⟩
      obtain ⟨W, fr, st, R, q⟩ := hw
      exact q W H (.refl _ _) rfl R
    · have hn : d ≠ .nil := fun z => by subst z; exact mE_nil h7
      rw [evC_some hn]
      exact pts_one (mE_ok d (F.toFit.blk scope s H D cl fp) h7).2
    · cases h7
end
end Rm
set_option Elab.async false
set_option linter.all false
set_option maxHeartbeats 8000000
/-! The look at statements is right. -/
namespace Rm
open PySem PySem.Spec L2
section
variable {C : Nat → Addr} {G : Sig} {n : Nat} {c : Ctx} {Wx : WX} {X : Cx}
theorem PS_imp {x : Stmt} {t t' : TS} (h : PS X x t) (k : ∀ D σ H, t' D σ H → t D σ H) : PS X x t' := ⟨fun pins s σ H D I q => h.run pins s σ H D I (k D σ H q)⟩
theorem PSs_imp {x : List Stmt} {t t' : TS} (h : PSs X x t) (k : ∀ D σ H, t' D σ H → t D σ H) : PSs X x t' := ⟨fun pins s σ H D I q => h.run pins s σ H D I (k D σ H q)⟩
theorem sw_name {v : Expr} {x : Str} {p : Pos} {l : Nat} {env : Env} : (swapsWith v (some (.Name x p)) l env = pure false) ∨ (swapsWith v (some (.Name x p)) l env = pure true ∧ env.scope.names.lookup x = some .local ∧ notLc v = false) := by
  have key : ∀ sc : Scope, ∀ lp : Pos, ∀ b : Bool, b = (env.blockKind == .function && env.kindOf x == some .local && p.line == lp.line && !(sc.names.any fun (n, k) => n == x && (k == .local || k == .cell))) → b = true → env.scope.names.lookup x = some .local := by
    intro sc lp b e hb
    rw [e] at hb
    simp only [Bool.and_eq_true] at hb
    exact eq_of_beq hb.1.1.2
  have fin : ∀ sc : Scope, ∀ lp : Pos, swapsWith v (some (.Name x p)) l env = pure (env.blockKind == .function && env.kindOf x == some .local && p.line == lp.line && !(sc.names.any fun (n, k) => n == x && (k == .local || k == .cell))) → notLc v = false →
      (swapsWith v (some (.Name x p)) l env = pure false) ∨ (swapsWith v (some (.Name x p)) l env = pure true ∧ env.scope.names.lookup x = some .local ∧ notLc v = false) := by
    intro sc lp e hn
    cases hb : (env.blockKind == .function && env.kindOf x == some .local && p.line == lp.line && !(sc.names.any fun (n, k) => n == x && (k == .local || k == .cell))) with
    | false => exact .inl (by rw [e, hb])
    | true => exact .inr ⟨by rw [e, hb], key sc lp _ rfl hb, hn⟩
  cases v <;> first
    | exact .inl rfl
    | exact fin _ _ rfl rfl
theorem mE_sc {e : E} {elt : Expr} {gs : List Comprehension} {sc : Scope} {lp : Pos} (h : mE e (.SetComp elt gs sc lp) c = true) : False := by
  cases e <;> first | exact nomatch (show false = true from h) | skip
  case isi a ts => rcases ts with _ | ⟨t, _ | ⟨t2, ts⟩⟩ <;> exact nomatch (show false = true from h)
theorem mE_dc {e : E} {k v : Expr} {gs : List Comprehension} {sc : Scope} {lp : Pos} (h : mE e (.DictComp k v gs sc lp) c = true) : False := by
  cases e <;> first | exact nomatch (show false = true from h) | skip
  case isi a ts => rcases ts with _ | ⟨t, _ | ⟨t2, ts⟩⟩ <;> exact nomatch (show false = true from h)
/-- name = value -/
theorem ps_nm {i : Nat} {x : Str} {p pos : Pos} {e : E} {v : Expr} (F : FitS c C G n Wx X) (hi : X.N[i]? = some x) (hx : stoN c x = true) (h : mE e v c = true) :
    PS X (.Assign [.Name x p] v pos) (fun D σ H => tE X.K C Wx (evE G e) σ H fun v H1 => D.nx (σ.set i (some v)) H1) := by
  obtain ⟨l1, l2⟩ := stoN_ok F.toFit hx
  rcases sw_name (v := v) (x := x) (p := p) (l := pos.line) (env := X.env) with hs | ⟨hs, hl, hn⟩
  · exact ps_set (by rw [F.N]; exact F.nd) hi l1 (mE_ok e F.toFit h).1 hs l2
  · cases v <;> first | exact nomatch (show true = false from hn) | exact (mE_sc h).elim | exact (mE_dc h).elim | skip
    refine PS_imp (mE_lc F hi hl hs h) fun D σ H q => ?_
    have := tE_fr q
    obtain ⟨W, fr, st, R, q⟩ := this
    exact ⟨W, fr, st, R, q.imp (fun z st' e => ⟨fun W' H' v hp x o R' D _ => e.1 W' H' v hp x o R' D, fun W' H' a us xs hp x o R' e1 D n1 n2 n3 hn _ => e.2 W' H' a us xs hp x o R' e1 D n1 n2 n3 hn⟩) fun _ _ _ z => z⟩
theorem ps_nmF {i : Nat} {x : Str} {p pos : Pos} {e : E} {v : Expr} (F : FitS c C G n Wx X) (hi : X.N[i]? = some x) (hx : stoN c x = true) (hf : isFresh e = true) (h : mE e v c = true) :
    PS X (.Assign [.Name x p] v pos) (fun D σ H => tFr X.K C Wx (evE G e) σ H fun v H1 => D.nx (σ.set i (some v)) H1) := by
  obtain ⟨l1, l2⟩ := stoN_ok F.toFit hx
  rcases sw_name (v := v) (x := x) (p := p) (l := pos.line) (env := X.env) with hs | ⟨hs, hl, hn⟩
  · exact ps_set (by rw [F.N]; exact F.nd) hi l1 (mE_fr F.toFit hf h) hs l2
  · cases v <;> first | exact nomatch (show true = false from hn) | exact (mE_sc h).elim | exact (mE_dc h).elim | skip
    refine PS_imp (mE_lc F hi hl hs h) fun D σ H q => ?_
    obtain ⟨W, fr, st, R, q⟩ := q
    exact ⟨W, fr, st, R, q.imp (fun z st' e => ⟨fun W' H' v hp x o R' D _ => e.1 W' H' v hp x o R' D, fun W' H' a us xs hp x o R' e1 D n1 n2 n3 hn _ => e.2 W' H' a us xs hp x o R' e1 D n1 n2 n3 hn⟩) fun _ _ _ z => z⟩
theorem tSt_set {i : Nat} {e : E} {D : Ends} {σ : St} {H : Hp} (q : tSt X.K C Wx (exS G (.set i e)) D σ H) : tE X.K C Wx (evE G e) σ H fun v H1 => D.nx (σ.set i (some v)) H1 := by
  obtain ⟨W, fr, st, R, q⟩ := q
  simp only [exS] at q
  exact ⟨W, fr, st, R, (res_post q).imp (fun p st1 h W1 H1 v x o R1 d => end_set h x o R1 d) fun _ _ _ z => z⟩
theorem tSt_own {i : Nat} {e : E} {D : Ends} {σ : St} {H : Hp} (q : tSt X.K C Wx (exS G (.own i e)) D σ H) : tFr X.K C Wx (evE G e) σ H fun v H1 => D.nx (σ.set i (some v)) H1 := by
  obtain ⟨W, fr, st, R, q⟩ := q
  simp only [exS] at q
  refine ⟨W, fr, st, R, (res_post q).imp (fun p st1 h => ⟨fun W1 H1 v hp x o R1 d => ?_, fun W1 H1 a us xs hp x o R1 e d n1 n2 n3 hn => ?_⟩) fun _ _ _ z => z⟩
  · have : ownF i p fr = none := by
      unfold ownF
      split
      · exact absurd rfl (hp _)
      · rfl
    rw [this] at h
    exact h.elim
  · subst hp
    exact end_own (p := .non) h x o R1 e d n1 n2 n3 hn
/-- target = value -/
theorem ps_tg {t : T} {e : E} {tg v : Expr} {pos : Pos} (F : FitS c C G n Wx X) (hp : plainT c tg v = true) (hT : mT c tg t = true) (h : mE e v c = true) : PS X (.Assign [tg] v pos) (tSt X.K C Wx (exS G (.tgt t e))) := by
  cases tg <;> first | exact nomatch (show false = true from hp) | skip
  rename_i ts k tp
  have hw : swappedStores [.Tuple ts k tp] v X.env = pure none := by
    cases v <;> first | rfl | skip
    rename_i vs k2 vp
    have hp : (vs.all (foldedForSure 8) || ts.any fun | .Name id _ => !(c.sc.names.lookup id == some .local) | _ => true) = true := hp
    rcases (Bool.or_eq_true _ _).mp hp with hp | hp
    · exact sw_fold hp
    · obtain ⟨y, hy, hq⟩ := List.any_eq_true.mp hp
      refine sw_cell hy ?_
      cases y <;> first | rfl | skip
      rename_i id pp
      show (X.env.scope.names.lookup id == some .local) = false
      rw [F.sc]
      simpa using hq
  refine PS_imp (ps_asg (mE_ok e F.toFit h).1 (F.pt hT) (by cases v <;> rfl) hw rfl) fun D σ H q => ?_
  obtain ⟨W, fr, st, R, q⟩ := q
  simp only [exS] at q
  refine ⟨W, fr, st, R, (res_post q).imp (fun p st1 h W1 H1 v x o R1 d => ?_) fun _ _ _ z => z⟩
  split at h
  · rename_i hk
    cases ha : asg t p fr with
    | none =>
      rw [ha] at h
      exact h.elim
    | some fr' =>
      rw [ha] at h
      exact asg_ok ha (d.den hk) R1.slots fun σ' sl _ _ => h _ _ _ ((x.toS o).trans onlyS) (sl.rel R1.s)
  · exact h.elim
/-- a, b = two values -/
theorem tSt_par {i j : Nat} {a b : E} {D : Ends} {σ : St} {H : Hp} (q : tSt X.K C Wx (exS G (.par i j a b)) D σ H) : tPar i j (tCons (tE X.K C Wx (evE G a)) (tCons (tE X.K C Wx (evE G b)) tNil)) D σ H := by
  obtain ⟨W, fr, st, R, q⟩ := q
  simp only [exS] at q
  refine ⟨W, fr, st, R, (res_post q).imp (fun p st1 h W1 H1 v x o R1 d => ⟨W1, fr, st1, R1, (res_post h).imp (fun p2 st2 h2 W2 H2 w x2 o2 R2 d2 => ?_) fun _ _ _ z => EndX.shift z x o⟩) fun _ _ _ z => z⟩
  unfold setF at h2
  by_cases hk : keep p = true ∧ i < fr.length
  · rw [if_pos hk] at h2
    simp only [Option.bind_some, List.length_set] at h2
    by_cases hk2 : keep p2 = true ∧ j < fr.length
    · rw [if_pos hk2] at h2
      have R3 := R2.setv ((DenM.ext R1.s.sep x2 o2 d).den hk.1) hk.2
      have R4 := R3.setv (i := j) ((d2.den hk2.1).withO) (by rw [List.length_set]; exact hk2.2)
      exact ⟨v, w, rfl, h2 _ _ _ ((((x.toS o).trans (x2.toS o2)).trans onlyS).trans onlyS) R4⟩
    · rw [if_neg hk2] at h2
      exact h2.elim
  · rw [if_neg hk] at h2
    exact h2.elim
theorem augF_ok {op : Op} {p q z : PV} (h : augF op p q = some z) : ∃ i j k : Int, p = .int i ∧ q = .int j ∧ z = .int k ∧ ((op = .add ∧ k = i + j) ∨ (op = .sub ∧ k = i - j)) := by
  unfold augF at h
  split at h
  · split at h
    · cases h
      exact ⟨_, _, _, rfl, rfl, rfl, .inl ⟨rfl, rfl⟩⟩
    · cases h
      exact ⟨_, _, _, rfl, rfl, rfl, .inr ⟨rfl, rfl⟩⟩
    · cases h
  · cases h
theorem lst_slot {W : Wd} {H : Hp} {σ : St} {fr : Frm} {st : Sto} {i : Nat} (R : Rel X.K C W H σ fr st) (h : lstSlot fr st i = true) : ∃ a us, σ[i]? = some (some (.ref a)) ∧ H a = some (.lst us) := by
  unfold lstSlot at h
  split at h
  · rename_i xs e
    obtain ⟨a, us, h1, h2, h3, h4⟩ := R.own i xs e
    exact ⟨a, us, h1, h3⟩
  · rename_i m e
    obtain ⟨v, h1, h2⟩ := R.slt i _ e
    cases h2 with
    | ref hr =>
      obtain ⟨us, hu⟩ := R.s.sep.rl _ _ hr
      exact ⟨_, us, h1, hu⟩
  · cases h
end
end Rm
set_option Elab.async false
set_option linter.all false
set_option maxHeartbeats 8000000
/-! The look at statements is right: all of them. -/
namespace Rm
open PySem PySem.Spec L2
section
variable {C : Nat → Addr} {G : Sig} {n : Nat}
theorem Sz.tag {H : Hp} {a : Addr} {φ : Heap → Prop} (z : Sz H) : Sz (L2.upd H a (.ext φ)) := fun b ws q => by
  by_cases e : b = a
  · subst e
    rcases q with (q | ⟨o, q⟩) | (q | ⟨o, q⟩) <;> rw [upd_same] at q <;> cases q
  · rcases q with (q | ⟨o, q⟩) | (q | ⟨o, q⟩) <;> rw [upd_ne e] at q
    · exact z b ws (.inl (.inl q))
    · exact z b ws (.inl (.inr ⟨o, q⟩))
    · exact z b ws (.inr (.inl q))
    · exact z b ws (.inr (.inr ⟨o, q⟩))
section
variable {c : Ctx} {Wx : WX} {X : Cx}
theorem ps_apnd {i : Nat} {x nm : Str} {px ap cp pos : Pos} {e : E} {v : Expr} (F : FitS c C G n Wx X) (hnm : nm = "append") (hi : X.N[i]? = some x) (hv : isVis c.sc x = true) (hp : plainN x = true) (hl : (ap.endLine == cp.line) = true) (ns : noStar v = true) (h : mE e v c = true) :
    PS X (.Expr (.Call (.Attribute (.Name x px) nm ap) [v] [] cp) pos) (tSt X.K C Wx (exS G (.app i e))) := by
  subst hnm
  have pl := plainN_ok hp
  refine PS_imp (ps_expr (pe_bm PySem.F.plainAttrs_list PySem.F.slot_list_append PySem.F.type_list_append mt_append (pe_var (pos := px) hi (by rw [F.sc]; exact isVis_ok hv) pl.1 pl.2.1) (pa_cons (mE_ok e F.toFit h).1 pa_nil (star_cons ns)) rfl (by rw [star_cons ns]; rfl) hl (star_cons ns)) rfl) fun D σ H q => ?_
  obtain ⟨W, fr, st, R, q⟩ := q
  simp only [exS] at q
  split at q
  · rename_i hs
    obtain ⟨a, us, h1, h2⟩ := lst_slot R hs
    refine ⟨.ref a, h1, .inl ⟨rfl, us, SqL.of h2⟩, W, fr, st, R, (res_post q).imp (fun p st1 h W1 H1 u x o R1 d => ?_) fun _ _ _ z => z⟩
    obtain ⟨a', ws, xs, ys, e1, e2, e3, e4, e5⟩ := wr_end R1 h1 (ResP.shift h (x.toS o))
    cases e1
    unfold appF at e4
    split at e4
    · rename_i hk
      cases e4
      have hz : ws.length < sizeLine := by
        rw [e3.len]
        exact hk.2
      exact ⟨a, ws, u, rfl, rfl, e2, hz, e5 _ (e3.app (.cons (d.den hk.1) .nil)) (by rw [List.length_append, List.length_singleton]; exact hz)⟩
    · cases e4
  · exact q.elim
theorem ps_stor {i : Nat} {x : Str} {px p2 pos : Pos} {k e : E} {kx v : Expr} (F : FitS c C G n Wx X) (hi : X.N[i]? = some x) (hv : isVis c.sc x = true) (hp : plainN x = true) (nk : noSlice kx = true) (hk : mE k kx c = true) (h : mE e v c = true) :
    PS X (.Assign [.Subscript (.Name x px) kx p2] v pos) (tSt X.K C Wx (exS G (.sto i k e))) := by
  have pl := plainN_ok hp
  refine PS_imp (ps_asg (mE_ok e F.toFit h).1 (pg_sub (pe_var (pos := px) hi (by rw [F.sc]; exact isVis_ok hv) pl.1 pl.2.1) (mE_ok k F.toFit hk).1 set_list (by cases kx <;> first | (intro _; rfl) | exact nomatch (show false = true from nk))) (by cases v <;> rfl) (by cases v <;> rfl) rfl) fun D σ H q => ?_
  obtain ⟨W, fr, st, R, q⟩ := q
  simp only [exS] at q
  split at q
  · rename_i hs
    obtain ⟨a, us, h1, h2⟩ := lst_slot R hs
    refine ⟨W, fr, st, R, (res_post q).imp (fun p st1 h W1 H1 u x o R1 d => ⟨.ref a, h1, W1, fr, st1, R1, (res_post h).imp (fun y st2 h2 W2 H2 w x2 o2 R2 d2 => ?_) fun _ _ _ z => EndX.shift z x o⟩) fun _ _ _ z => z⟩
    obtain ⟨a', ws, xs, ys, e1, e2, e3, e4, e5⟩ := wr_end R2 h1 (ResP.shift h2 ((x.toS o).trans (x2.toS o2)))
    cases e1
    unfold stoF at e4
    split at e4
    · split at e4
      · rename_i kk hk
        simp only [Option.map_eq_some_iff] at e4
        obtain ⟨j, hj, rfl⟩ := e4
        have dk := d2.den rfl
        cases dk
        refine ⟨a, ws, kk, j, rfl, rfl, e2, by rw [e3.len]; exact hj, e5 _ (e3.set j ((DenM.ext R1.s.sep x2 o2 d).den hk)) ?_⟩
        rw [List.length_set]
        exact R2.s.sz a ws (.inl (.inl e2))
      · cases e4
    · cases e4
  · exact q.elim
theorem ps_augm {i : Nat} {x : Str} {p pos : Pos} {op : Op} {e : E} {v : Expr} (F : FitS c C G n Wx X) (ho : op = .add ∨ op = .sub) (hi : X.N[i]? = some x) (hx : stoN c x = true) (h : mE e v c = true) :
    PS X (.AugAssign (.Name x p) (opA op) v pos) (tSt X.K C Wx (exS G (.aug i op e))) := by
  obtain ⟨l1, l2⟩ := stoN_ok F.toFit hx
  have nd : X.N.Nodup := by rw [F.N]; exact F.nd
  have key : ∀ (f : Int → Int → Int), (∀ i j k, ((op = .add ∧ k = i + j) ∨ (op = .sub ∧ k = i - j)) → k = f i j) → ∀ D σ H, tSt X.K C Wx (exS G (.aug i op e)) D σ H → tAug i (tE X.K C Wx (evE G e)) (ipI f) D σ H := by
    intro f hf D σ H q
    obtain ⟨W, fr, st, R, q⟩ := q
    simp only [exS] at q
    cases hv : valF fr i with
    | none =>
      rw [hv] at q
      exact q.elim
    | some x0 =>
      rw [hv] at q
      have hs : fr[i]? = some (some (.val x0)) := by
        unfold valF at hv
        split at hv
        · cases hv
          assumption
        · cases hv
      obtain ⟨v0, h1, h2⟩ := R.slt i _ hs
      refine ⟨v0, h1, W, fr, st, R, (res_post q).imp (fun p st1 h W1 H1 u x o R1 d => ?_) fun _ _ _ z => z⟩
      cases ha : augF op x0 p with
      | none =>
        rw [ha] at h
        exact h.elim
      | some z =>
        rw [ha] at h
        obtain ⟨a, b, k, rfl, rfl, rfl, hk⟩ := augF_ok ha
        cases h2
        have dd := d.den rfl
        cases dd
        refine ⟨a, b, rfl, rfl, ?_⟩
        have := hf a b k hk
        subst this
        exact end_set h x o R1 (.inl (.int _))
  rcases ho with rfl | rfl
  · exact PS_imp (ps_aug nd hi l1 (mE_ok e F.toFit h).1 ip_add l2) (key _ fun i j k h => by
      rcases h with ⟨_, h⟩ | ⟨h, _⟩
      · exact h
      · cases h)
  · exact PS_imp (ps_aug nd hi l1 (mE_ok e F.toFit h).1 ip_sub l2) (key _ fun i j k h => by
      rcases h with ⟨h, _⟩ | ⟨_, h⟩
      · cases h
      · exact h)
end
mutual
theorem m1_ok : ∀ (a : S) {x : Stmt} {c : Ctx} {Wx : WX} {X : Cx}, FitS c C G n Wx X → m1 a x c = true → PS X x (tSt X.K C Wx (exS G a))
  | .set i e, x, c, Wx, X, F, h => by
    cases x <;> first | exact nomatch (show false = true from h) | skip
    rename_i tgs v pos
    rcases tgs with _ | ⟨tg, _ | ⟨t2, tgs⟩⟩ <;> first | exact nomatch (show false = true from h) | skip
    · cases tg <;> first | exact nomatch (show false = true from h) | skip
      simp only [m1, Bool.and_eq_true, decide_eq_true_eq] at h
      exact PS_imp (ps_nm F (by rw [F.N]; exact h.1.1) h.1.2 h.2) fun D σ H q => tSt_set q
    · cases tg <;> exact nomatch (show false = true from h)
  | .own i e, x, c, Wx, X, F, h => by
    cases x <;> first | exact nomatch (show false = true from h) | skip
    rename_i tgs v pos
    rcases tgs with _ | ⟨tg, _ | ⟨t2, tgs⟩⟩ <;> first | exact nomatch (show false = true from h) | skip
    · cases tg <;> first | exact nomatch (show false = true from h) | skip
      simp only [m1, Bool.and_eq_true, decide_eq_true_eq] at h
      exact PS_imp (ps_nmF F (by rw [F.N]; exact h.1.1.1) h.1.1.2 h.1.2 h.2) fun D σ H q => tSt_own q
    · cases tg <;> exact nomatch (show false = true from h)
  | .tgt t e, x, c, Wx, X, F, h => by
    cases x <;> first | exact nomatch (show false = true from h) | skip
    rename_i tgs v pos
    rcases tgs with _ | ⟨tg, _ | ⟨t2, tgs⟩⟩ <;> first | exact nomatch (show false = true from h) | skip
    simp only [m1, Bool.and_eq_true] at h
    exact ps_tg F h.1.1 h.1.2 h.2
  | .par i j a b, x, c, Wx, X, F, h => by
    cases x <;> first | exact nomatch (show false = true from h) | skip
    rename_i tgs w pos
    simp only [m1] at h
    split at h
    · rename_i x px y py u v e
      obtain ⟨k1, p1, k2, p2, rfl, rfl⟩ := parOf_ok e
      simp only [Bool.and_eq_true, decide_eq_true_eq, Bool.not_eq_true'] at h
      obtain ⟨⟨⟨⟨⟨⟨⟨⟨⟨⟨⟨⟨h1, h2⟩, h3⟩, h4⟩, h5⟩, h6⟩, h7⟩, h8⟩, h9⟩, h10⟩, h11⟩, h12⟩, h13⟩ := h
      have lx := locN_ok F.toFit h4
      have ly := locN_ok F.toFit h5
      exact PS_imp (ps_par F.calm (by rw [F.N]; exact F.nd) (by rw [F.N]; exact h1) (by rw [F.N]; exact h2) h3 lx ly (pa_cons (mE_ok a F.toFit h12).1 (pa_cons (mE_ok b F.toFit h13).1 pa_nil (star_cons h9)) (star_cons h8)) (sw_two F.kd lx ly h6 h7 h8 h9 h10 h11)) fun D σ H q => tSt_par q
    · cases h
  | .aug i op e, x, c, Wx, X, F, h => by
    cases x <;> first | exact nomatch (show false = true from h) | skip
    rename_i tg o v pos
    cases tg <;> first | exact nomatch (show false = true from h) | skip
    simp only [m1, Bool.and_eq_true, Bool.or_eq_true, decide_eq_true_eq] at h
    obtain ⟨⟨⟨⟨rfl, h1⟩, h2⟩, h3⟩, h4⟩ := h
    exact ps_augm F h1 (by rw [F.N]; exact h2) h3 h4
  | .app i e, x, c, Wx, X, F, h => by
    cases x <;> first | exact nomatch (show false = true from h) | skip
    rename_i v pos
    cases v <;> first | exact nomatch (show false = true from h) | skip
    rename_i f as ks cp
    cases f <;> first | exact nomatch (show false = true from h) | skip
    rename_i o nm ap
    cases o <;> first | exact nomatch (show false = true from h) | skip
    rcases as with _ | ⟨y, _ | ⟨z, as⟩⟩ <;> first | exact nomatch (show false = true from h) | skip
    cases ks <;> first | exact nomatch (show false = true from h) | skip
    simp only [m1, Bool.and_eq_true, decide_eq_true_eq] at h
    obtain ⟨⟨⟨⟨⟨⟨h1, h2⟩, h3⟩, h4⟩, h5⟩, h6⟩, h7⟩ := h
    exact ps_apnd F h1 (by rw [F.N]; exact h2) h3 h4 h5 h6 h7
  | .sto i k e, x, c, Wx, X, F, h => by
    cases x <;> first | exact nomatch (show false = true from h) | skip
    rename_i tgs v pos
    rcases tgs with _ | ⟨tg, _ | ⟨t2, tgs⟩⟩ <;> first | exact nomatch (show false = true from h) | skip
    · cases tg <;> first | exact nomatch (show false = true from h) | skip
      rename_i o kx p2
      cases o <;> first | exact nomatch (show false = true from h) | skip
      simp only [m1, Bool.and_eq_true, decide_eq_true_eq] at h
      obtain ⟨⟨⟨⟨⟨h1, h2⟩, h3⟩, h4⟩, h5⟩, h6⟩ := h
      exact ps_stor F (by rw [F.N]; exact h1) h2 h3 h4 h5 h6
    · cases tg <;> first | exact nomatch (show false = true from h) | skip
      rename_i o kx p2
      cases o <;> exact nomatch (show false = true from h)
  | .xpr e, x, c, Wx, X, F, h => by
    cases x <;> first | exact nomatch (show false = true from h) | skip
    simp only [m1, Bool.and_eq_true] at h
    refine PS_imp (ps_expr (mE_ok e F.toFit h.2).1 (by
      have := h.1
      revert this
      intro this
      rename_i v pos
      cases v <;> first | rfl | exact nomatch (show false = true from this))) fun D σ H q => ?_
    obtain ⟨W, fr, st, R, q⟩ := q
    simp only [exS] at q
    exact ⟨W, fr, st, R, (res_post q).imp (fun p st1 h W1 H1 u x o R1 d => h W1 H1 σ (x.toS o) R1) fun _ _ _ z => z⟩
  | .doc, x, c, Wx, X, F, h => by
    cases x <;> first | exact nomatch (show false = true from h) | skip
    · rename_i v pos
      cases v <;> first | exact nomatch (show false = true from h) | skip
      rename_i k kk p
      cases k <;> first | exact nomatch (show false = true from h) | skip
      exact PS_imp ps_doc fun D σ H q => by
        obtain ⟨W, fr, st, R, q⟩ := q
        simp only [exS] at q
        exact q W H σ (ExtS.refl _ _) R
    · exact PS_imp ps_pass fun D σ H q => by
        obtain ⟨W, fr, st, R, q⟩ := q
        simp only [exS] at q
        exact q W H σ (ExtS.refl _ _) R
  | .ret e, x, c, Wx, X, F, h => by
    cases x <;> first | exact nomatch (show false = true from h) | skip
    rename_i v pos
    cases v <;> first | exact nomatch (show false = true from h) | skip
    have h : mE e _ c = true := h
    refine PS_imp (ps_ret (mE_ok e F.toFit h).1) fun D σ H q => ?_
    obtain ⟨W, fr, st, R, q⟩ := q
    simp only [exS] at q
    refine ⟨W, fr, st, R, (res_post q).imp (fun p st1 h W1 H1 u x o R1 d => ?_) fun _ _ _ z => z⟩
    split at h
    · rename_i hk
      exact h W1 H1 u (x.toS o) R1.s (d.den hk)
    · exact h.elim
  | .retN, x, c, Wx, X, F, h => by
    cases x <;> first | exact nomatch (show false = true from h) | skip
    rename_i v pos
    cases v <;> first | exact nomatch (show false = true from h) | skip
    exact PS_imp ps_retN fun D σ H q => by
      obtain ⟨W, fr, st, R, q⟩ := q
      simp only [exS] at q
      exact q W H _ (ExtS.refl _ _) R.s .non
  | .retF e, x, c, Wx, X, F, h => by
    cases x <;> first | exact nomatch (show false = true from h) | skip
    rename_i v pos
    cases v <;> first | exact nomatch (show false = true from h) | skip
    simp only [m1, Bool.and_eq_true] at h
    refine PS_imp (ps_ret (mE_fr F.toFit h.1 h.2)) fun D σ H q => ?_
    obtain ⟨W, fr, st, R, q⟩ := q
    simp only [exS] at q
    refine ⟨W, fr, st, R, (res_post q).imp (fun p st1 h => ⟨fun W1 H1 v hp x o R1 d => ?_, fun W1 H1 a us xs hp x o R1 e d n1 n2 n3 hn => ?_⟩) fun _ _ _ z => z⟩
    · split at h
      · exact absurd rfl (hp _)
      · exact h.elim
    · subst hp
      exact end_retF h x o R1 e d n1 n2 n3 hn
  | .ite d a b, x, c, Wx, X, F, h => by
    cases x <;> first | exact nomatch (show false = true from h) | skip
    simp only [m1, Bool.and_eq_true] at h
    obtain ⟨⟨h1, h2⟩, h3⟩ := h
    refine PS_imp (ps_if (mE_ok d F.toFit h1).2 (mB_ok a F h2) (mB_ok b F h3)) fun D σ H q => ?_
    obtain ⟨W, fr, st, R, q⟩ := q
    simp only [exS] at q
    refine ⟨W, fr, st, R, (res_post q).imp (fun k st1 h W1 H1 x o R1 => ?_) fun _ _ _ z => z⟩
    cases k
    · simp only [Bool.false_eq_true, if_false] at h ⊢
      exact ⟨W1, fr, st1, R1, ResP.shift h (x.toS o)⟩
    · simp only [if_true] at h ⊢
      exact ⟨W1, fr, st1, R1, ResP.shift h (x.toS o)⟩
  | .for t it b, x, c, Wx, X, F, h => by
    cases x <;> first | exact nomatch (show false = true from h) | skip
    rename_i tg i body oe pos
    cases oe <;> first | exact nomatch (show false = true from h) | skip
    simp only [m1, Bool.and_eq_true] at h
    obtain ⟨⟨⟨h1, h2⟩, h3⟩, h4⟩ := h
    refine PS_imp (ps_for F.po F.calm (mI_ok it F.toFit h3) (F.pt h1) (mB_ok b F h4) (noSet_f h2 _)) fun D σ H q => ?_
    obtain ⟨W, fr, st, R, q⟩ := q
    simp only [exS] at q
    refine ⟨W, fr, st, R, (res_post q).imp (fun xs st1 h W1 H1 J x o R1 wk => ?_) fun _ _ _ z => z⟩
    exact for_loop R1 wk (ResP.shift h (x.toS o))
  | .whl d b, x, c, Wx, X, F, h => by
    cases x <;> first | exact nomatch (show false = true from h) | skip
    rename_i v body oe pos
    cases oe <;> first | exact nomatch (show false = true from h) | skip
    simp only [m1, Bool.and_eq_true] at h
    refine PS_imp (ps_while F.po (mE_ok d F.toFit h.1).2 (mB_ok b F h.2)) fun D σ H q => ?_
    exact whl_loop (by
      obtain ⟨W, fr, st, R, q⟩ := q
      simp only [exS] at q
      exact ⟨W, fr, st, R, q⟩)
  | .brk, x, c, Wx, X, F, h => by
    cases x <;> first | exact nomatch (show false = true from h) | skip
    exact PS_imp ps_break fun D σ H q => by
      obtain ⟨W, fr, st, R, q⟩ := q
      simp only [exS] at q
      exact q W H σ (ExtS.refl _ _) R
  | .cnt, x, c, Wx, X, F, h => by
    cases x <;> first | exact nomatch (show false = true from h) | skip
    exact PS_imp ps_continue fun D σ H q => by
      obtain ⟨W, fr, st, R, q⟩ := q
      simp only [exS] at q
      exact q W H σ (ExtS.refl _ _) R
  | .rse k l, x, c, Wx, X, F, h => by
    cases x <;> first | exact nomatch (show false = true from h) | skip
    rename_i v ca pos
    cases v <;> first | exact nomatch (show false = true from h) | skip
    rename_i v
    cases v <;> first | exact nomatch (show false = true from h) | skip
    rename_i f as ks cp
    cases f <;> first | exact nomatch (show false = true from h) | skip
    rename_i x px
    cases ks <;> first | exact nomatch (show false = true from h) | skip
    cases ca <;> first | exact nomatch (show false = true from h) | skip
    simp only [m1, Bool.and_eq_true, decide_eq_true_eq] at h
    obtain ⟨⟨⟨⟨⟨h1, h2⟩, h3⟩, h4⟩, h5⟩, h6⟩ := h
    have g := F.gl h1
    obtain ⟨_, ⟨_, _, _, _, f1, f2⟩, kp, sb, ty⟩ := F.G.rai k h3
    cases as with
    | nil => cases h4
    | cons e es =>
      have ns : noStar e = true ∧ es.all noStar = true := by simpa using h5
      refine PS_imp (ps_raise F.calm F.tk (pmk_ownA f1 f2 (F.G.cls k x h2).1 kp (raises_own sb ty) g.1 (mL_ok l F.toFit h6) g.2.1 (star_cons ns.1) (star_any ns.2))) fun D σ H q => ?_
      obtain ⟨W, fr, st, R, q⟩ := q
      simp only [exS] at q
      refine ⟨W, fr, st, R, (res_post q).imp (fun ps st1 h W1 H1 vs x o R1 d => ?_) fun _ _ _ z => z⟩
      split at h
      · rename_i hk
        have hl : vs.length = ps.length := Paired.length d
        exact ⟨by rw [hl]; exact fits_iff.mp hk, h W1 H1 σ _ _ (x.toS o) R1 ⟨rfl, rfl, rfl⟩⟩
      · exact h.elim
  | .try b k i j, x, c, Wx, X, F, h => by
    cases x <;> first | exact nomatch (show false = true from h) | skip
    rename_i body hs oe fb pos
    simp only [m1, Bool.and_eq_true] at h
    obtain ⟨hB, h⟩ := h
    split at h
    · rename_i cn nn m n2 e
      obtain ⟨q1, q2, q3, q4, p, rfl, rfl, rfl⟩ := tryOf_ok e
      simp only [Bool.and_eq_true, decide_eq_true_eq] at h
      obtain ⟨⟨⟨⟨⟨⟨⟨⟨rfl, h1⟩, h2⟩, h3⟩, h4⟩, h5⟩, h6⟩, h7⟩, h8⟩ := h
      have g := F.gl h7
      have pl := plainN_ok h6
      have hcl := F.G.cls k cn h8
      have hk : k < c.T.cl.length := (List.getElem?_eq_some_iff.mp h8).1
      refine PS_imp (ps_caught (c := .ref (C k)) (tb := fun W => tSt X.K C W (exS G b)) F.hs F.hf F.hex (by rw [F.N]; exact F.nd) (by rw [F.N]; exact h1) (by rw [F.N]; exact h2) h3 (locN_ok F.toFit h4) (locN_ok F.toFit h5) pl.1 pl.2.1 ⟨g.1, g.2.1, .inl hcl.1⟩ F.tk
        fun W pn xe tk po => mB_ok b (F.tr tk po) hB) fun D σ H q => ?_
      obtain ⟨W, fr, st, R, q⟩ := q
      simp only [exS] at q
      refine ⟨W, fr, st, R, ?_⟩
      cases hb : exS G b fr st with
      | nx fr1 st1 =>
        rw [hb] at q
        exact q
      | rt p st1 =>
        rw [hb] at q
        exact q
      | bk fr1 st1 =>
        rw [hb] at q
        exact q
      | ct fr1 st1 =>
        rw [hb] at q
        exact q
      | bad =>
        rw [hb] at q
        exact q
      | ex k2 p2 fr1 st1 =>
        rw [hb] at q
        intro W' H' σ' cls d x' R' ev
        obtain ⟨rfl, rfl, rfl⟩ := ev
        unfold tryF at q
        dsimp only at q
        split at q
        · rename_i l hl
          have hk2 : k2 < c.T.cl.length := by
            rw [← F.G.ancl]
            exact (List.getElem?_eq_some_iff.mp hl).1
          obtain ⟨_, l2, e2, ok2⟩ := F.G.cls k2 c.T.cl[k2] (by simp [hk2])
          rw [hl] at e2
          cases e2
          refine ⟨_, ok2.exm k hk, fun hc a ha => ?_, fun hc => ?_⟩
          · rw [if_pos hc] at q
            split at q
            · rename_i hj
              have z2 : Sz (upd H' a (.ext (excP a (.ref (C k2)) none))) := R'.s.sz.tag
              have R2 := R'.new (u := .ext (excP a (.ref (C k2)) none)) ha z2
              have hj1 : j < fr1.length := hj.1
              have R3 := R2.setv (i := j) (v := .ref a) (p := .exc k2 .non) (.exc upd_same) hj1
              have R4 := (R3.slots.drop (i := i)).rel R3.s
              exact q _ _ _ (((x'.trans ((Ext.new ha).toS rfl)).trans onlyS).trans onlyS) R4
            · exact q.elim
          · rw [if_neg (by rw [hc]; exact Bool.false_ne_true)] at q
            exact q W' H' σ' _ _ x' R' ⟨rfl, rfl, rfl⟩
        · exact q.elim
    · cases h
  | .nop, x, c, Wx, X, F, h => nomatch (show false = true from h)
  | .seq _ _, x, c, Wx, X, F, h => nomatch (show false = true from h)
  | .frz _ _, x, c, Wx, X, F, h => nomatch (show false = true from h)
theorem mB_ok : ∀ (a : S) {xs : List Stmt} {c : Ctx} {Wx : WX} {X : Cx}, FitS c C G n Wx X → mB a xs c = true → PSs X xs (tSt X.K C Wx (exS G a))
  | .nop, xs, c, Wx, X, F, h => by
    cases xs <;> first | exact nomatch (show false = true from h) | skip
    exact PSs_imp pss_nil fun D σ H q => by
      obtain ⟨W, fr, st, R, q⟩ := q
      simp only [exS] at q
      exact q W H σ (ExtS.refl _ _) R
  | .seq a b, xs, c, Wx, X, F, h => by
    cases xs <;> first | exact nomatch (show false = true from h) | skip
    simp only [mB, Bool.and_eq_true] at h
    refine PSs_imp (pss_cons (m1_ok a F h.1) (mB_ok b F h.2)) fun D σ H q => ?_
    obtain ⟨W, fr, st, R, q⟩ := q
    simp only [exS] at q
    refine ⟨W, fr, st, R, ?_⟩
    cases ha : exS G a fr st with
    | nx fr1 st1 =>
      rw [ha] at q
      exact fun W' H' σ' x R' => ⟨W', fr1, st1, R', ResP.shift q x⟩
    | rt p st1 =>
      rw [ha] at q
      exact q
    | bk fr1 st1 =>
      rw [ha] at q
      exact q
    | ct fr1 st1 =>
      rw [ha] at q
      exact q
    | ex k p fr1 st1 =>
      rw [ha] at q
      exact q
    | bad =>
      rw [ha] at q
      exact q
  | .frz i b, xs, c, Wx, X, F, h => by
    have h : mB b xs c = true := h
    refine PSs_imp (mB_ok b F h) fun D σ H q => ?_
    obtain ⟨W, fr, st, R, q⟩ := q
    simp only [exS] at q
    unfold frzF at q
    split at q
    · rename_i ys e
      obtain ⟨W', x, R'⟩ := R.frz e
      exact ⟨W', _, st, R', ResP.shift q x⟩
    · exact q.elim
  | .set _ _, xs, c, Wx, X, F, h => nomatch (show false = true from h)
  | .own _ _, xs, c, Wx, X, F, h => nomatch (show false = true from h)
  | .tgt _ _, xs, c, Wx, X, F, h => nomatch (show false = true from h)
  | .par _ _ _ _, xs, c, Wx, X, F, h => nomatch (show false = true from h)
  | .aug _ _ _, xs, c, Wx, X, F, h => nomatch (show false = true from h)
  | .app _ _, xs, c, Wx, X, F, h => nomatch (show false = true from h)
  | .sto _ _ _, xs, c, Wx, X, F, h => nomatch (show false = true from h)
  | .xpr _, xs, c, Wx, X, F, h => nomatch (show false = true from h)
  | .doc, xs, c, Wx, X, F, h => nomatch (show false = true from h)
  | .ret _, xs, c, Wx, X, F, h => nomatch (show false = true from h)
  | .retN, xs, c, Wx, X, F, h => nomatch (show false = true from h)
  | .retF _, xs, c, Wx, X, F, h => nomatch (show false = true from h)
  | .ite _ _ _, xs, c, Wx, X, F, h => nomatch (show false = true from h)
  | .for _ _ _, xs, c, Wx, X, F, h => nomatch (show false = true from h)
  | .whl _ _, xs, c, Wx, X, F, h => nomatch (show false = true from h)
  | .brk, xs, c, Wx, X, F, h => nomatch (show false = true from h)
  | .cnt, xs, c, Wx, X, F, h => nomatch (show false = true from h)
  | .rse _ _, xs, c, Wx, X, F, h => nomatch (show false = true from h)
  | .try _ _ _ _, xs, c, Wx, X, F, h => nomatch (show false = true from h)
end
end
end Rm
set_option Elab.async false
set_option linter.all false
set_option maxHeartbeats 8000000
/-! Defs: a table of bodies; each keeps its promise. -/
namespace Rm
open PySem PySem.Spec L2

/-- a def: its name, how many parameters by place, the others' names, its slots' names (parameters first), its body -/
structure Fn where
  nm : Str
  np : Nat
  ks : List Str
  N : List Str
  body : S
def startF (N : List Str) (ps : List PV) : Frm := ps.map (fun p => some (.val p)) ++ List.replicate (N.length - ps.length) none
def outR : Res → Out PV
  | .nx _ st => .ok .non st
  | .rt p st => .ok p st
  | .ex c p _ st => .exc c p st
  | _ => .bad
def runFn (G : Sig) (F : Fn) (ps : List PV) (st : Sto) : Out PV := if ps.length = F.np + F.ks.length then outR (exS G F.body (startF F.N ps) st) else .bad
/-- n calls deep -/
def sigAt (fs : List Fn) (gl : List PV) (anc : List (List Nat)) (fuel : Nat) : Nat → Sig
  | 0 => ⟨fun _ _ _ => .bad, gl, anc, fuel⟩
  | n + 1 => ⟨fun j ps st => match fs[j]? with
      | some F => runFn (sigAt fs gl anc fuel n) F ps st
      | none => .bad, gl, anc, fuel⟩

/-- a def of the text, as it stands behind the top -/
structure FnAt (T : Gtab) (K : PySem.W.Frag) (mg : Str → Option Value) (F : Fn) (st : Stmt) : Prop where
  ex : ∃ (f : Addr) (oc : Value) (od : Option Addr) (dV kV doc pm : Value) (an : Option Addr) (cdv ct : Value) (osl : Array (Option Value)),
    K.lookup f = some ⟨oc, od, .func (PySem.W.fnOf F.nm F.nm (defArgs st) (defBody st) (defScope st) dV kV doc pm an cdv ct), osl⟩ ∧ PySem.W.codeIn K cdv F.nm = true ∧ PySem.W.keepIn K (.ref f) = true ∧ mg F.nm = some (.ref f) ∧
    ∀ us ws : List Value, us.length = F.np → ws.length = F.ks.length → bindArgs (PySem.W.fnOf F.nm F.nm (defArgs st) (defBody st) (defScope st) dV kV doc pm an cdv ct) ⟨us, F.ks.zip ws⟩ = pure ((F.N.take (F.np + F.ks.length)).zip (us ++ ws))
def ctxOf (T : Gtab) (F : Fn) (st : Stmt) : Ctx := ⟨T, F.N, defScope st, fun _ => true⟩
/-- the look at a def's names -/
def scK (N ps : List Str) (sc : Scope) : Bool := decide (sc.kind = .function) && (!sc.isCoroutine && !sc.isGenerator) && decide N.Nodup && decide (N.take ps.length = ps) &&
  (ps.all fun x => decide (sc.names.lookup x = some .local) || decide (sc.names.lookup x = some .cell)) && sc.names.all fun y => decide (y.2 ≠ .free)
theorem scK_ok {N ps : List Str} {sc : Scope} (h : scK N ps sc = true) : FnScope N ps sc := by
  unfold scK at h
  simp only [Bool.and_eq_true, Bool.not_eq_true', decide_eq_true_eq, List.all_eq_true, Bool.or_eq_true] at h
  obtain ⟨⟨⟨⟨⟨a, b⟩, c⟩, d⟩, e⟩, f⟩ := h
  exact ⟨a, b.1, b.2, c, d, e, f⟩
/-- the look at a def -/
def fnC (T : Gtab) (F : Fn) (st : Stmt) : Bool := scK F.N (F.N.take (F.np + F.ks.length)) (defScope st) && decide (F.np + F.ks.length ≤ F.N.length) && mB F.body (defBody st) (ctxOf T F st)

theorem ExtS.bare {W W' : Wd} {H H' : Hp} (x : ExtS W H W' H') (h : W.o = fun _ => none) : Ext W H (W'.withO fun _ => none) H' where
  kp := fun b u e n => x.kp b u e n fun i z => by rw [h] at z; cases z
  th := x.th
  F := x.F
  Fn := fun a f => by
    rcases x.Fn a f with z | ⟨i, z⟩ | z
    · exact .inl z
    · rw [h] at z
      cases z
    · exact .inr z
  r := x.r
  rn := fun m a f => by
    rcases x.rn m a f with z | ⟨i, z⟩ | z
    · exact .inl z
    · rw [h] at z
      cases z
    · exact .inr z
section
variable {K : PySem.W.Frag} {C : Nat → Addr} {W : Wd} {H : Hp} {st : Sto}
theorem Rel.entry {N : List Str} {vs : List V} {ps : List PV} (R : RelS K C W H st) (h : W.o = fun _ => none) (d : Dens K C W H vs ps) (hl : ps.length ≤ N.length) : Rel K C W H (L2.start N vs) (startF N ps) st where
  s := R
  len := by
    have := d.len
    unfold startF L2.start
    rw [List.length_append, List.length_append, List.length_map, List.length_map, List.length_replicate, List.length_replicate, this]
  slt := fun i p e => by
    unfold startF at e
    by_cases hi : i < ps.length
    · rw [List.getElem?_append_left (by rw [List.length_map]; exact hi), List.getElem?_map, List.getElem?_eq_getElem hi] at e
      simp only [Option.map_some, Option.some.injEq, FV.val.injEq] at e
      obtain ⟨v, h1, h2⟩ := d.get (i := i) (p := ps[i]) (List.getElem?_eq_getElem hi)
      rw [e] at h2
      refine ⟨v, ?_, h2⟩
      unfold L2.start
      have hv : i < vs.length := by rw [d.len]; exact hi
      rw [List.getElem?_append_left (by rw [List.length_map]; exact hv), List.getElem?_map, h1]
      rfl
    · rw [List.getElem?_append_right (by rw [List.length_map]; omega), List.getElem?_replicate] at e
      split at e <;> cases e
  own := fun i xs e => by
    unfold startF at e
    by_cases hi : i < ps.length
    · rw [List.getElem?_append_left (by rw [List.length_map]; exact hi), List.getElem?_map, List.getElem?_eq_getElem hi] at e
      cases e
    · rw [List.getElem?_append_right (by rw [List.length_map]; omega), List.getElem?_replicate] at e
      split at e <;> cases e
  on := fun i a e => by
    rw [h] at e
    cases e
end
section
variable {P : Program} {w : World} {K : PySem.W.Frag} {mg : Str → Option Value} {base : Heap} {C : Nat → Addr} {T : Gtab}
/-- a def's promise, by its body -/
theorem call_of {G : Sig} {n : Nat} {F : Fn} {x : Stmt} (A : FnAt T K mg F x) (hC : fnC T F x = true) (hG : Glob T C G n P w K mg base) : ∃ f, mg F.nm = some (.ref f) ∧ PySem.W.keepIn K (.ref f) = true ∧ CallOk P w K mg base (n + 1) F.np F.ks f (spF K C (runFn G F)) := by
  obtain ⟨f, oc, od, dV, kV, doc, pm, an, cdv, ct, osl, lk, hcd, kp, gm, bnd⟩ := A.ex
  refine ⟨f, gm, kp, ?_⟩
  unfold fnC at hC
  simp only [Bool.and_eq_true, decide_eq_true_eq] at hC
  obtain ⟨⟨c1, c2⟩, c3⟩ := hC
  have S := scK_ok c1
  intro A outer s H us ws vs Q E hr hgd e0 h1 h2 rv hsp
  obtain ⟨W, st, ps, RS, Wo, D, hp⟩ := hsp
  unfold runFn at hp
  split at hp
  · rename_i hlen
    have hvl : vs.length = ps.length := D.len
    have hl : vs.length = (F.N.take (F.np + F.ks.length)).length := by
      rw [hvl, hlen, List.length_take]
      omega
    have KX : K.In s.heap := e0.mod.kin.keeps fun b o e => (e0.bs b o e).1
    have lim : s.heap.NoLimit := e0.mod.nolimit.keeps fun b o e => (e0.bs b o e).1
    have par : ∀ y ∈ (F.N.take (F.np + F.ks.length)).zip (us ++ ws), (defScope x).names.lookup y.1 = some .local ∨ ((defScope x).names.lookup y.1 = some .cell ∧ ((cellsFrom (s.heap.objs.size + 1) (defScope x).names []).lookup y.1).isSome = true) := fun ⟨z, v⟩ hy => by
      rcases S.par z (List.of_mem_zip hy).1 with q | q
      · exact .inl q
      · exact .inr ⟨q, PySem.W.cellsFrom_some _ _ _ (.inl q)⟩
    have bto : BindsTo s (PySem.W.fnOf F.nm F.nm (defArgs x) (defBody x) (defScope x) dV kV doc pm an cdv ct) ⟨us, F.ks.zip ws⟩ ((F.N.take (F.np + F.ks.length)).zip (us ++ ws)) := .of_eq (bnd us ws h1 h2)
    refine codeAny_call_function hr.depth (KX _ _ lk) rfl S.co S.gen rfl (PySem.W.codeRec_of KX hcd) (bto _ _ _ _ (wpAny_newFunctionEnv_cells S.kind par fun env he s1 xx => ?_))
    subst he
    refine ⟨lim.keeps xx.toInCall.keep, codeAny_func ?_⟩
    have I := inv_start (CX := L2.CX P w) (P := P) (w := w) (K := K) (mg := mg) (base := base) (qual := F.nm) (f := f) (cd := cdv) (E := E) S hr.hd e0 hl rv xx
    have FS : FitS (ctxOf T F x) C G n (fun cls d _ H => E cls d H) (cxOf (L2.CX P w) P w K mg base F.N F.nm (defScope x) f cdv A outer s H E) := {
      N := rfl
      sc := rfl
      fn := fun _ _ => rfl
      calm := rfl
      nd := S.nd
      tk := takes_of rfl rfl rfl rfl
      gd := hgd
      rm := hr.deeper _
      G := hG
      po := passes_of rfl
      hs := rfl
      hf := rfl
      hex := rfl
      kd := S.kind }
    refine wpAny_mono ((mB_ok F.body FS c3).run [] s1 (L2.start F.N vs) H { nx := fun _ H' => Q .non H', rt := Q } I ⟨W, startF F.N ps, st, Rel.entry RS Wo D (by omega), ?_⟩) (fun fl t hs => ?_) fun e t hs => hs
    · have hp : Post (outR (exS G F.body (startF F.N ps) st)) _ _ := hp
      show ResP K C _ W H _ (exS G F.body (startF F.N ps) st)
      cases hb : exS G F.body (startF F.N ps) st with
      | nx fr1 st1 =>
        rw [hb] at hp
        exact fun W' H' σ' x R => hp _ H' .non (x.bare Wo) rfl R.s.bare .non
      | rt p st1 =>
        rw [hb] at hp
        exact fun W' H' v x R d => hp _ H' v (x.bare Wo) rfl R.bare d.withO
      | ex c p fr1 st1 =>
        rw [hb] at hp
        exact fun W' H' σ' cls d x R e => hp _ H' cls d (x.bare Wo) rfl R.s.bare e
      | bk fr1 st1 =>
        rw [hb] at hp
        exact hp.elim
      | ct fr1 st1 =>
        rw [hb] at hp
        exact hp.elim
      | bad =>
        rw [hb] at hp
        exact hp.elim
    · have fin : ∀ {σ' : St} {H' : Hp} {v : V} {u : Value}, Inv (cxOf (L2.CX P w) P w K mg base F.N F.nm (defScope x) f cdv A outer s H E) [] σ' H' t → RelV v u → Q v H' → CE outer P w H s Q u t := fun {σ' H' v u} J r q => ⟨v, H', J.os, J.bare, J.base, J.hok, r, q⟩
      cases fl with
      | ret u =>
        obtain ⟨v, _, H', J, r, q⟩ := hs
        exact fin J r q
      | next =>
        obtain ⟨_, H', J, q⟩ := hs
        exact fin (v := V.non) (u := Value.none) J rfl q
      | brk =>
        obtain ⟨_, _, _, q⟩ := hs
        exact False.elim q
      | cont =>
        obtain ⟨_, _, _, q⟩ := hs
        exact False.elim q
  · exact hp.elim
/-- what stands still -/
structure Still (T : Gtab) (C : Nat → Addr) (fs : List Fn) (gl : List PV) (anc : List (List Nat)) (K : PySem.W.Frag) (mg : Str → Option Value) : Prop where
  tf : T.fs = fs.map fun F => (F.nm, F.np, F.ks)
  fns : ∀ (j : Nat) (F : Fn), fs[j]? = some F → ∃ x, FnAt T K mg F x ∧ fnC T F x = true
  blt : ∀ x ∈ bltNames, mg x = none
  gls : ∀ (k : Nat) (nm : Str) (p : PV), T.gl[k]? = some (nm, p) → gl[k]? = some p ∧ ∃ u v, mg nm = some u ∧ RelV v u ∧ ∀ W H, Den K C W H v p
  cls : ∀ (c : Nat) (nm : Str), T.cl[c]? = some nm → mg nm = some (.ref (C c)) ∧ ∃ l, anc[c]? = some l ∧ ClsOk K C c l T.cl.length
  ancl : anc.length = T.cl.length
  rai : ∀ c, c ∈ T.rs → c < T.cl.length ∧ RaiseOk K (C c)
theorem glob_of {fs : List Fn} {gl : List PV} {anc : List (List Nat)} {fuel : Nat} (S : Still T C fs gl anc K mg) : ∀ n, Glob T C (sigAt fs gl anc fuel n) n P w K mg base
  | 0 => ⟨fun j nm np ks e => by
      rw [S.tf, List.getElem?_map] at e
      cases hj : fs[j]? with
      | none => rw [hj] at e; cases e
      | some F =>
        rw [hj] at e
        cases e
        obtain ⟨x, A, _⟩ := S.fns j F hj
        obtain ⟨f, oc, od, dV, kV, doc, pm, an, cdv, ct, osl, lk, hcd, kp, gm, bnd⟩ := A.ex
        refine ⟨f, gm, kp, fun A outer s H us ws vs Q E _ _ _ _ _ _ hsp => ?_⟩
        obtain ⟨W, st, ps, _, _, _, hp⟩ := hsp
        exact hp.elim, S.blt, S.gls, S.cls, S.ancl, S.rai⟩
  | n + 1 => ⟨fun j nm np ks e => by
      rw [S.tf, List.getElem?_map] at e
      cases hj : fs[j]? with
      | none => rw [hj] at e; cases e
      | some F =>
        rw [hj] at e
        cases e
        obtain ⟨x, A, hC⟩ := S.fns j F hj
        obtain ⟨f, h1, h2, h3⟩ := call_of A hC (glob_of (fuel := fuel) S n)
        refine ⟨f, h1, h2, ?_⟩
        have : (sigAt fs gl anc fuel (n + 1)).call j = runFn (sigAt fs gl anc fuel n) F := by
          funext ps st
          show (match fs[j]? with | some F => runFn (sigAt fs gl anc fuel n) F ps st | none => .bad) = _
          rw [hj]
        rw [this]
        exact h3, S.blt, S.gls, S.cls, S.ancl, S.rai⟩
end
end Rm
set_option Elab.async false
set_option linter.all false
set_option maxHeartbeats 8000000
/-! What stands behind the top: classes, constants, defs; the law's own call. -/
namespace Rm
open PySem PySem.Spec L2 PySem.W

def adr (K : Frag) (nm : Str) : Addr := match nsIn K mainGlobals nm with
  | some (some (.ref a)) => a
  | _ => 0
def kindsB : List String := ["NoneType", "bool", "int", "str", "list", "tuple"]
def kindsC : List String := ["bool", "int", "str", "list", "tuple"]
def chainV : List Value := [.type "ValueError", .type "Exception", .type "BaseException", .type "object"]
def excB (K : Frag) (D : Addr) : Bool :=
  decide (findIn K (.ref D) "__getattribute__" = some (some (.builtin "BaseException.__getattribute__"))) && decide (findIn K (.ref D) "__getattr__" = some none) && decide (subIn K (.ref D) (.type "BaseException") = some true) && hasDictIn K D &&
  decide (findIn K (.ref D) "__class__" = some (some (.builtin "object.__class__"))) && decide (specialIn K (.builtin "object.__class__") "__get__" = some (some (.builtin "getset_descriptor.__get__"))) && decide (takesIn K (.builtin "object.__class__") = some true) && decide (mroIn K D (.type "object") = some true)
def oneB (K : Frag) (cl : List Str) (nm : Str) (l : List Nat) : Bool :=
  decide (nsIn K mainGlobals nm = some (some (.ref (adr K nm)))) && excB K (adr K nm) && (kindsB.all fun T => decide (kitOne K (.type T) (.ref (adr K nm)) = some false)) && (kindsC.all fun T => decide (kitOne K (.ref (adr K nm)) (.type T) = some false)) &&
  (List.range cl.length).all fun d => decide (kitOne K (.ref (adr K nm)) (.ref (adr K (cl.getD d ""))) = some (l.contains d)) && decide (exmOne K (.ref (adr K nm)) (.ref (adr K (cl.getD d ""))) = some (l.contains d))
def raiB (K : Frag) (nm : Str) : Bool := excIn K (adr K nm) chainV "ValueError.__new__" && keepIn K (.ref (adr K nm)) && decide (subIn K (.ref (adr K nm)) (.type "BaseException") = some true) && decide (typeIn K (.ref (adr K nm)) = some (.type "type"))
/-- the look at the classes -/
def clsB (K : Frag) (cl : List Str) (anc : List (List Nat)) (rs : List Nat) : Bool :=
  decide (anc.length = cl.length) && ((List.range cl.length).all fun c => oneB K cl (cl.getD c "") (anc.getD c [])) && rs.all fun c => decide (c < cl.length) && raiB K (cl.getD c "")
def bltB (K : Frag) : Bool := bltNames.all fun x => decide (nsIn K mainGlobals x = some none)
def glB (K : Frag) (gl : List (Str × PV)) : Bool := gl.all fun g => match g.2, nsIn K mainGlobals g.1 with
  | .int i, some (some (.int j _)) => decide (i = j)
  | _, _ => false
def clsAt (K : Frag) (cl : List Str) : Nat → Addr := fun c => adr K (cl.getD c "")

section
variable {K : Frag} {h : Heap} {mg : Str → Option Value}
theorem excB_ok {D : Addr} (e : excB K D = true) : ExcC K D := by
  unfold excB at e
  simp only [Bool.and_eq_true, decide_eq_true_eq] at e
  obtain ⟨⟨⟨⟨⟨⟨⟨a, b⟩, c⟩, d⟩, e1⟩, f⟩, g⟩, i⟩ := e
  exact ⟨a, b, c, d, e1, f, g, i⟩
theorem oneB_ok {cl : List Str} {c : Nat} {l : List Nat} (e : oneB K cl (cl.getD c "") l = true) : nsIn K mainGlobals (cl.getD c "") = some (some (.ref (clsAt K cl c))) ∧ ClsOk K (clsAt K cl) c l cl.length := by
  unfold oneB at e
  simp only [Bool.and_eq_true, decide_eq_true_eq, List.all_eq_true, List.mem_range] at e
  obtain ⟨⟨⟨⟨a, b⟩, c1⟩, d⟩, f⟩ := e
  exact ⟨a, excB_ok b, c1, fun x hx => (f x hx).1, fun x hx => (f x hx).2, d⟩
theorem clsB_ok {cl : List Str} {anc : List (List Nat)} {rs : List Nat} (X : K.In h) (G : h.Ns mainGlobals mg) (e : clsB K cl anc rs = true) :
    (∀ (c : Nat) (nm : Str), cl[c]? = some nm → mg nm = some (.ref (clsAt K cl c)) ∧ ∃ l, anc[c]? = some l ∧ ClsOk K (clsAt K cl) c l cl.length) ∧ anc.length = cl.length ∧ ∀ c, c ∈ rs → c < cl.length ∧ RaiseOk K (clsAt K cl c) := by
  unfold clsB at e
  simp only [Bool.and_eq_true, decide_eq_true_eq, List.all_eq_true, List.mem_range] at e
  obtain ⟨⟨a, b⟩, c⟩ := e
  refine ⟨fun k nm q => ?_, a, fun k hk => ?_⟩
  · obtain ⟨hk, rfl⟩ := List.getElem?_eq_some_iff.mp q
    have z := oneB_ok (b k hk)
    have e1 : cl.getD k "" = cl[k] := by simp [hk]
    have e2 : anc[k]? = some (anc.getD k []) := by simp [a, hk]
    rw [e1] at z
    exact ⟨mg_of X G z.1, _, e2, z.2⟩
  · obtain ⟨h1, h2⟩ := c k hk
    unfold raiB at h2
    simp only [Bool.and_eq_true, decide_eq_true_eq] at h2
    obtain ⟨⟨⟨r1, r2⟩, r3⟩, r4⟩ := h2
    exact ⟨h1, ⟨⟨_, _, _, _, PySem.F.excBase_ValueError, r1⟩, r2, r3, r4⟩⟩
theorem bltB_ok (X : K.In h) (G : h.Ns mainGlobals mg) (e : bltB K = true) : ∀ x ∈ bltNames, mg x = none := fun x hx => by
  unfold bltB at e
  have := List.all_eq_true.mp e x hx
  exact mg_none_of X G (of_decide_eq_true this)
theorem glB_ok {C : Nat → Addr} {gl : List (Str × PV)} (X : K.In h) (G : h.Ns mainGlobals mg) (e : glB K gl = true) : ∀ (k : Nat) (nm : Str) (p : PV), gl[k]? = some (nm, p) → (gl.map (·.2))[k]? = some p ∧ ∃ u v, mg nm = some u ∧ RelV v u ∧ ∀ W H, Den K C W H v p := fun k nm p q => by
  unfold glB at e
  have := List.all_eq_true.mp e _ (List.mem_of_getElem? q)
  refine ⟨by rw [List.getElem?_map, q]; rfl, ?_⟩
  dsimp only at this
  cases hn : nsIn K mainGlobals nm with
  | none => rw [hn] at this; cases p <;> exact nomatch (show false = true from this)
  | some v =>
    cases v with
    | none => rw [hn] at this; cases p <;> exact nomatch (show false = true from this)
    | some v =>
      rw [hn] at this
      cases p <;> cases v <;> first | exact nomatch (show false = true from this) | skip
      rename_i i j t
      have := of_decide_eq_true this
      subst this
      exact ⟨_, .int i, mg_of X G hn, ⟨t, rfl⟩, fun _ _ => .int i⟩
theorem fnAt_mk {T : Gtab} {F : Fn} {st : Stmt} {f : Addr} {od an : Option Addr} {oc kV doc pm cdv ct : Value} {osl : Array (Option Value)} (X : K.In h) (G : h.Ns mainGlobals mg) (a : nsIn K mainGlobals F.nm = some (some (.ref f)))
    (l : K.lookup f = some ⟨oc, od, .func (fnOf F.nm F.nm (defArgs st) (defBody st) (defScope st) .none kV doc pm an cdv ct), osl⟩) (c : codeIn K cdv F.nm = true) (k : keepIn K (.ref f) = true)
    (b : ∀ (kV doc pm : Value) (an : Option Addr) (cdv ct : Value) (us ws : List Value), us.length = F.np → ws.length = F.ks.length → bindArgs (fnOf F.nm F.nm (defArgs st) (defBody st) (defScope st) .none kV doc pm an cdv ct) ⟨us, F.ks.zip ws⟩ = pure ((F.N.take (F.np + F.ks.length)).zip (us ++ ws))) :
    FnAt T K mg F st := ⟨⟨f, oc, od, .none, kV, doc, pm, an, cdv, ct, osl, l, c, k, mg_of X G a, b kV doc pm an cdv ct⟩⟩
end

/-! ### the law's own call -/
theorem dens_ints {K : Frag} {C : Nat → Addr} {W : Wd} {H : Hp} : ∀ ns : List Int, Dens K C W H (ns.map V.int) (ns.map PV.int)
  | [] => .nil
  | n :: ns => .cons (.int n) (dens_ints ns)
def bareW : Wd := ⟨fun _ => False, fun _ => none, fun _ => none⟩
theorem bareW_rel {K : Frag} {C : Nat → Addr} {H : Hp} (z : Sz H) : RelS K C bareW H [] :=
  ⟨⟨fun _ _ e => (nomatch e), fun _ _ e => (nomatch e), fun _ e => False.elim e, fun _ _ e => False.elim e, fun _ _ e => False.elim e, fun _ _ _ e => (nomatch e), fun _ _ _ e => (nomatch e), fun _ _ _ e => (nomatch e)⟩, z, fun n xs e => by simp at e, fun _ _ e => (nomatch e)⟩
/-- the law's promise -/
def LawOk (P : Program) (w : World) (K : Frag) (mg : Str → Option Value) (f : Addr) (k : Nat) (ns : List Int) : Prop :=
  ∀ base : Heap, ∃ r, CallOk P w K mg base k 1 [] f (spF K (fun _ => 0) r) ∧ ∃ st, r [.scr (ns.map .int)] [] = .ok (.bl true) st
end Rm
set_option Elab.async false
set_option linter.all false
set_option maxHeartbeats 8000000
/-! The law's own call: behind the top, with the script. -/
namespace Rm
open PySem PySem.Spec L2 PySem.W
section
variable {P : Program} {w : World} {K : Frag} {mg mb : Str → Option Value} {C : Nat → Addr} {k : Nat} {fa a : Addr} {s : Shared} {vs : List Value} {ns : List Int} {r : List PV → Sto → Out PV}
/-- from a heap in which nothing but the script is told -/
theorem law_at {H : Hp} (KX : K.In s.heap) (hns : s.heap.Ns mainGlobals mg) (hb : s.heap.Ns builtinsNs mb) (hbb : ∀ x : Str, x ≠ "__name__" → mb x = bootBuiltins x) (hlim : s.heap.NoLimit) (hg : s.gens = #[])
    (ha : s.heap.get? a = some { cls := .type "list", data := .seq vs.toArray }) (hr : Room k callerA)
    (F : ∀ base : Heap, K.In base → base.Ns mainGlobals mg → CallOk P w K mg base k 1 [] fa (spF K C r)) (hrun : ∃ st, r [.scr (ns.map .int)] [] = .ok (.bl true) st)
    (hO : Only H) (hS : (∃ o, H a = some (.frz o (.lst (ns.map V.int)))) ∨ KList K a (ns.map V.int)) (hok : HOk P w H s.heap) (hA : ∀ b, H b ≠ none → b = a) (hK : H a ≠ none → K.lookup a = none) :
    codeAny (model P w) callerA (.call (.ref fa) ⟨[.ref a], []⟩) (fun q t => q = .ok (.ret (.bool true)) ∧ OldK s.heap t.heap ∧ t.os = s.os ∧ PyProof.Rows.AllBare t.gens) s := by
  have only : ∀ {b : Addr} {u : HO}, H b = some u → b = a := fun {b u} q => hA b (by rw [q]; simp)
  have noA : ∀ {b : Addr} {o : Obj} {es : Array DictEntry} {ep : Nat}, s.heap.get? b = some o → o.data = .dict es ep → H b = none := fun {b o es ep} e d => by
    cases q : H b with
    | none => rfl
    | some u =>
      obtain rfl := only q
      rw [ha] at e
      cases e
      have z : Data.seq vs.toArray _ = Data.dict es ep := d
      cases z
  have nsK : ∀ {b : Addr} {m : Str → Option Value}, s.heap.Ns b m → (hidT s.heap H).Ns b m := fun {b m} ⟨o, es, ep, e, d, z⟩ => ⟨o, es, ep, hidT_get e (noA e d), d, z⟩
  have kB : K.In (hidT s.heap H) := fun b o e => hidT_get (KX b o e) (by
    cases q : H b with
    | none => rfl
    | some u =>
      obtain rfl := only q
      rw [hK (by rw [q]; simp)] at e
      cases e)
  have md : Mod K mg (hidT s.heap H) := ⟨kB, nsK hns, ⟨mb, nsK hb, hbb⟩, let ⟨mc, z1, z2⟩ := hlim; ⟨mc, nsK z1, z2⟩⟩
  have e0 : Env0 P w K mg (hidT s.heap H) callerA [] s H := ⟨rfl, md, fun b o e => of_hidT e, Nat.le_of_eq (hidT_size _ _), trivial, fun b hb => absurd (show b ∈ ([] : List Addr) from hb) (by simp), hok, .of_eq hg⟩
  have sz : Sz H := fun b us q => by
    rcases q with q | q
    · exact (q.ok hok).1
    · exact (q.ok hok).1
  obtain ⟨st, hr2⟩ := hrun
  refine codeAny_mono (F _ kB (nsK hns) callerA [] s H [.ref a] [] [.ref a] (fun v _ => v = .bl true) (fun _ _ _ => False) hr rfl e0 rfl rfl (.cons rfl .nil) ⟨bareW, [], [.scr (ns.map .int)], bareW_rel sz, rfl, .cons (.scr hS (dens_ints ns)) .nil, ?_⟩) fun q t h => ?_
  · rw [hr2]
    exact fun W' H' v _ _ _ d => by
      cases d
      rfl
  · cases q with
    | error e =>
      obtain ⟨_, _, _, _, _, _, _, _, _, _, _, _, z⟩ := h
      exact z.elim
    | ok fl =>
      cases fl with
      | next => exact False.elim h
      | brk => exact False.elim h
      | cont => exact False.elim h
      | ret u =>
        obtain ⟨v, H', os, bare, un, hok', rv, q⟩ := h
        obtain rfl : v = .bl true := q
        obtain rfl : u = Value.bool true := rv
        refine ⟨rfl, OldK.of_keep fun b o e => ?_, os, bare⟩
        cases q : H b with
        | none => exact un.keep b o e q (fun z => absurd (show b ∈ ([] : List Addr) from z) (by simp)) (by simp)
        | some u =>
          rcases hO b with z | ⟨ob, xs, z⟩
          · rw [q] at z
            cases z
          · obtain ⟨e1, _⟩ := hok b _ z
            obtain ⟨e2, _⟩ := hok' b _ (un.frzs b ob _ z)
            rw [e] at e1
            cases e1
            exact e2
theorem law_runs (KX : K.In s.heap) (hns : s.heap.Ns mainGlobals mg) (hb : s.heap.Ns builtinsNs mb) (hbb : ∀ x : Str, x ≠ "__name__" → mb x = bootBuiltins x) (hlim : s.heap.NoLimit) (hg : s.gens = #[])
    (ha : s.heap.get? a = some { cls := .type "list", data := .seq vs.toArray }) (hi : PyProof.Rows.IntsAre vs ns) (hl : ns.length ≤ sizeLine) (hr : Room k callerA)
    (F : ∀ base : Heap, K.In base → base.Ns mainGlobals mg → CallOk P w K mg base k 1 [] fa (spF K C r)) (hrun : ∃ st, r [.scr (ns.map .int)] [] = .ok (.bl true) st) :
    codeAny (model P w) callerA (.call (.ref fa) ⟨[.ref a], []⟩) (fun q t => q = .ok (.ret (.bool true)) ∧ OldK s.heap t.heap ∧ t.os = s.os ∧ PyProof.Rows.AllBare t.gens) s := by
  have rv := vals_ints hi
  have lv := hi.length
  cases hk : K.lookup a with
  | some o =>
    have e := KX a o hk
    rw [ha] at e
    cases e
    exact law_at (H := fun _ => none) KX hns hb hbb hlim hg ha hr F hrun (fun _ => .inl rfl) (.inr ⟨_, vs.toArray, _, hk, rfl, rfl, rfl, by rw [List.size_toArray, lv]; exact hl, by simpa using rv⟩) (fun b u z => by have z' : (none : Option HO) = some u := z; cases z') (fun b z => absurd rfl z) fun z => absurd rfl z
  | none =>
    refine law_at (H := fun b => if b = a then some (.frz { cls := .type "list", data := .seq vs.toArray } (.lst (ns.map V.int))) else none) KX hns hb hbb hlim hg ha hr F hrun (fun b => ?_) (.inl ⟨_, if_pos rfl⟩) (fun b u z => ?_) (fun b z => ?_) fun _ => hk
    · by_cases q : b = a
      · exact .inr ⟨_, _, if_pos q⟩
      · exact .inl (if_neg q)
    · by_cases q : b = a
      · have z' := (if_pos q).symm.trans z
        cases z'
        subst q
        exact ⟨ha, by rw [List.length_map]; exact hl, vs, _, rv, ha⟩
      · have z' := (if_neg q).symm.trans z
        cases z'
    · by_cases q : b = a
      · exact q
      · exact absurd (if_neg q) z
end
/-- THE END: a law by its run -/
theorem walk_run {l : OpenLaw} {n k : Nat} {q : Program} {loose : List Str} {XP : (Str → Option Value) → Heap → Prop} {YP : World → Heap → Prop} {d : DefRec} {K : Params → Frag} {fs : List Fn} {gl : List PV} {anc : List (List Nat)} {fuel : Nat} {j : Nat} {L : Fn}
    (hn : l.most = some n) (hn2 : n ≤ sizeLine) (hdf : d.params.defaults = []) (hr : Room (k + 1) callerA) (hY : ∀ (w : World) (h : Heap), YP w h → (K w.params).In h) (hL : fs[j]? = some L) (hnm : L.nm = d.name) (hnp : L.np = 1) (hks : L.ks = [])
    (F : ∀ (w : World) (mg : Str → Option Value) (h : Heap), (K w.params).In h → h.Ns mainGlobals mg → ∃ (T : Gtab) (C : Nat → Addr), Still T C fs gl anc (K w.params) mg)
    (hrun : ∀ ns : List Int, ns.length ≤ n → (∀ z ∈ ns, Builtin.Int.intBits z ≤ 1048576) → ∃ st, runFn (sigAt fs gl anc fuel k) L [.scr (ns.map .int)] [] = .ok (.bl true) st) :
    WalkO q loose XP YP l.row.toRowW d [] (fun f vs => PySem.call f vs) := by
  refine Att.attach_callB hn hdf fun w s₀ s₁ mg mb fa o pm cd doc a vs ns G Y ho hd hcd hmg hobj hints hlen hbits hg => ?_
  have KX := hY w _ Y
  obtain ⟨T, C, S⟩ := F w mg _ KX G.T.g
  refine law_runs (C := C) (r := runFn (sigAt fs gl anc fuel k) L) KX G.T.g G.T.b G.T.builtins G.T.nolimit hg hobj hints (Nat.le_trans hlen hn2) hr (fun base kb nb => ?_) (hrun ns hlen hbits)
  obtain ⟨x, A, hC⟩ := S.fns j L hL
  obtain ⟨f, h1, h2, h3⟩ := call_of (P := l.prog) (w := w) (base := base) A hC (glob_of (fuel := fuel) S k)
  rw [hnm, hmg] at h1
  cases h1
  rw [hnp, hks] at h3
  exact h3
end Rm
set_option Elab.async false
set_option linter.all false
set_option maxHeartbeats 4000000
/-! How the evaluator goes on, for simp. -/
namespace Rm
open PySem PySem.Spec L2
theorem nr {α : Sort u} {a b : α} (h : a = b) : a = b := h
section
variable (G : Sig) (fr : Frm) (st : Sto)
@[simp] theorem s1 (i : Nat) : evE G (.var i) fr st = (match fr[i]? with | some (some (.val p)) => .ok p st | some (some (.own _)) => .ok (.loc i) st | _ => .bad) := nr (by first | rfl | simp only [evE, evO, evC])
@[simp] theorem s2 (p : PV) : evE G (.cst p) fr st = (.ok p st) := nr (by first | rfl | simp only [evE, evO, evC])
@[simp] theorem s3 (k : Nat) : evE G (.glb k) fr st = (.of G.glb[k]? st) := nr (by first | rfl | simp only [evE, evO, evC])
@[simp] theorem s4 (a : E) : evE G (.neg a) fr st = ((evE G a fr st).bind fun p st => .of (negF p) st) := nr (by first | rfl | simp only [evE, evO, evC])
@[simp] theorem s5 (a : E) : evE G (.not a) fr st = ((evE G a fr st).bind fun p st => (Out.of (truF (deref fr st p)) st).bind fun b st => .ok (.bl (!b)) st) := nr (by first | rfl | simp only [evE, evO, evC])
@[simp] theorem s6 (op : Op) (a : E) (b : E) : evE G (.bin op a b) fr st = ((evE G a fr st).bind fun x st => (evE G b fr st).bind fun y st => .of (binF op (deref fr st x) (deref fr st y)) st) := nr (by first | rfl | simp only [evE, evO, evC])
@[simp] theorem s7 (op : Cop) (a : E) (b : E) : evE G (.cmp op a b) fr st = ((evE G a fr st).bind fun x st => (evE G b fr st).bind fun y st => (Out.of (cmpF op (deref fr st x) (deref fr st y)) st).bind fun k st => .ok (.bl k) st) := nr (by first | rfl | simp only [evE, evO, evC])
@[simp] theorem s8 (o1 : Cop) (o2 : Cop) (a : E) (b : E) (c : E) : evE G (.chn o1 o2 a b c) fr st = ((evE G a fr st).bind fun x st => (evE G b fr st).bind fun y st => (Out.of (cmpF o1 (deref fr st x) (deref fr st y)) st).bind fun k st => if k = true then (evE G c fr st).bind fun z st => (Out.of (cmpF o2 (deref fr st y) (deref fr st z)) st).bind fun k st => .ok (.bl k) st else .ok (.bl false) st) := nr (by first | rfl | simp only [evE, evO, evC])
@[simp] theorem s9 (l : E) : evE G (.and l) fr st = (evA G l fr st) := nr (by first | rfl | simp only [evE, evO, evC])
@[simp] theorem s10 (l : E) : evE G (.or l) fr st = (evR G l fr st) := nr (by first | rfl | simp only [evE, evO, evC])
@[simp] theorem s11 (c : E) (a : E) (b : E) : evE G (.ite c a b) fr st = ((evE G c fr st).bind fun x st => (Out.of (truF (deref fr st x)) st).bind fun k st => if k = true then evE G a fr st else evE G b fr st) := nr (by first | rfl | simp only [evE, evO, evC])
@[simp] theorem s12 (l : E) : evE G (.tup l) fr st = ((evL G l fr st).bind fun xs st => if keepAll xs = true ∧ fits xs.length = true then .ok (.seq true xs) st else .bad) := nr (by first | rfl | simp only [evE, evO, evC])
@[simp] theorem s13 (l : E) : evE G (.lst l) fr st = ((evL G l fr st).bind fun xs st => if keepAll xs = true ∧ fits xs.length = true then .ok (.seq false xs) st else .bad) := nr (by first | rfl | simp only [evE, evO, evC])
@[simp] theorem s14 (a : E) (i : E) : evE G (.sub a i) fr st = ((evE G a fr st).bind fun x st => (evE G i fr st).bind fun y st => .of (idxF (deref fr st x) y) st) := nr (by first | rfl | simp only [evE, evO, evC])
@[simp] theorem s15 (a : E) (lo : E) (hi : E) : evE G (.slc a lo hi) fr st = ((evE G a fr st).bind fun x st => (evO G lo fr st).bind fun l st => (evO G hi fr st).bind fun h st => .of (cutF l h (deref fr st x)) st) := nr (by first | rfl | simp only [evE, evO, evC])
@[simp] theorem s16 (a : E) : evE G (.rev a) fr st = ((evE G a fr st).bind fun x st => .of (revF (deref fr st x)) st) := nr (by first | rfl | simp only [evE, evO, evC])
@[simp] theorem s17 (f : Nat) (l : E) (k : E) : evE G (.call f l k) fr st = ((evL G l fr st).bind fun xs st => (evL G k fr st).bind fun ys st => if keepAll (xs ++ ys) = true then G.call f (xs ++ ys) st else .bad) := nr (by first | rfl | simp only [evE, evO, evC])
@[simp] theorem s18 (b : Blt) (l : E) : evE G (.blt b l) fr st = ((evL G l fr st).bind fun xs st => .of (bltF b (xs.map (deref fr st))) st) := nr (by first | rfl | simp only [evE, evO, evC])
@[simp] theorem s19 (a : E) (ts : List Ty) : evE G (.isi a ts) fr st = ((evE G a fr st).bind fun x st => (Out.of (isiAny G (deref fr st x) ts) st).bind fun k st => .ok (.bl k) st) := nr (by first | rfl | simp only [evE, evO, evC])
@[simp] theorem s20 (a : E) : evE G (.fld a) fr st = ((evE G a fr st).bind fun x st => .of (excF x) st) := nr (by first | rfl | simp only [evE, evO, evC])
@[simp] theorem s21 (a : E) (x : E) : evE G (.idx a x) fr st = ((evE G a fr st).bind fun v st => (Out.of (lstF (deref fr st v)) st).bind fun _ st => (evE G x fr st).bind fun y st => .of (idxM (deref fr st y) (deref fr st v)) st) := nr (by first | rfl | simp only [evE, evO, evC])
@[simp] theorem s22 (a : E) (x : E) : evE G (.cnt a x) fr st = ((evE G a fr st).bind fun v st => (Out.of (lstF (deref fr st v)) st).bind fun _ st => (evE G x fr st).bind fun y st => .of (cntM (deref fr st y) (deref fr st v)) st) := nr (by first | rfl | simp only [evE, evO, evC])
@[simp] theorem s23 (own : List Nat) (elt : E) (tg : T) (it : E) (c : E) : evE G (.comp own elt tg it c) fr st = ((evI G it fr st).bind fun xs st => (compRun (evE G elt) (evC G c) tg (wipeF fr own) xs [] st).bind fun ys st => .ok (.seq false ys) st) := nr (by first | rfl | simp only [evE, evO, evC])
@[simp] theorem s24 (a : E) (l : E) : evA G (.cons a l) fr st = ((evE G a fr st).bind fun x st => (Out.of (blF x) st).bind fun b st => if b = true then evA G l fr st else .ok (.bl false) st) := nr (by first | rfl | simp only [evA, evO, evC])
@[simp] theorem s25  : evA G .nil fr st = (.ok (.bl true) st) := nr (by first | rfl | simp only [evA, evO, evC])
@[simp] theorem s26 (a : E) (l : E) : evR G (.cons a l) fr st = ((evE G a fr st).bind fun x st => (Out.of (blF x) st).bind fun b st => if b = true then .ok (.bl true) st else evR G l fr st) := nr (by first | rfl | simp only [evR, evO, evC])
@[simp] theorem s27  : evR G .nil fr st = (.ok (.bl false) st) := nr (by first | rfl | simp only [evR, evO, evC])
@[simp] theorem s28  : evL G .nil fr st = (.ok [] st) := nr (by first | rfl | simp only [evL, evO, evC])
@[simp] theorem s29 (a : E) (l : E) : evL G (.cons a l) fr st = ((evE G a fr st).bind fun x st => (evL G l fr st).bind fun xs st => .ok (x :: xs) st) := nr (by first | rfl | simp only [evL, evO, evC])
@[simp] theorem s30 (a : E) : evI G (.itS a) fr st = ((evE G a fr st).bind fun x st => .of (seqF x) st) := nr (by first | rfl | simp only [evI, evO, evC])
@[simp] theorem s31 (l : E) : evI G (.itR l) fr st = ((evL G l fr st).bind fun xs st => .of (rngF xs) st) := nr (by first | rfl | simp only [evI, evO, evC])
@[simp] theorem s32 (a : E) : evI G (.itE a) fr st = ((evE G a fr st).bind fun x st => .of ((lstF x).map (enumF 0)) st) := nr (by first | rfl | simp only [evI, evO, evC])
@[simp] theorem s33  : exS G .nop fr st = (.nx fr st) := nr (by first | rfl | simp only [exS])
@[simp] theorem s34  : exS G .doc fr st = (.nx fr st) := nr (by first | rfl | simp only [exS])
@[simp] theorem s35 (a : S) (b : S) : exS G (.seq a b) fr st = ((exS G a fr st).then (exS G b)) := nr (by first | rfl | simp only [exS])
@[simp] theorem s36 (i : Nat) (b : S) : exS G (.frz i b) fr st = ((Res.ofF (frzF i fr) st).then (exS G b)) := nr (by first | rfl | simp only [exS])
@[simp] theorem s37 (i : Nat) (e : E) : exS G (.set i e) fr st = ((evE G e fr st).res fr fun p st => .ofF (setF i p fr) st) := nr (by first | rfl | simp only [exS])
@[simp] theorem s38 (i : Nat) (e : E) : exS G (.own i e) fr st = ((evE G e fr st).res fr fun p st => .ofF (ownF i p fr) st) := nr (by first | rfl | simp only [exS])
@[simp] theorem s39 (t : T) (e : E) : exS G (.tgt t e) fr st = ((evE G e fr st).res fr fun p st => if keep p = true then .ofF (asg t p fr) st else .bad) := nr (by first | rfl | simp only [exS])
@[simp] theorem s40 (i : Nat) (j : Nat) (a : E) (b : E) : exS G (.par i j a b) fr st = ((evE G a fr st).res fr fun p st => (evE G b fr st).res fr fun q st => .ofF ((setF i p fr).bind (setF j q)) st) := nr (by first | rfl | simp only [exS])
@[simp] theorem s41 (i : Nat) (op : Op) (e : E) : exS G (.aug i op e) fr st = (match valF fr i with | some x => (evE G e fr st).res fr fun y st => .ofF ((augF op x y).bind fun z => setF i z fr) st | none => .bad) := nr (by first | rfl | simp only [exS])
@[simp] theorem s42 (i : Nat) (e : E) : exS G (.app i e) fr st = (if lstSlot fr st i = true then (evE G e fr st).res fr fun p st => wrF fr st i (appF p) else .bad) := nr (by first | rfl | simp only [exS])
@[simp] theorem s43 (i : Nat) (k : E) (e : E) : exS G (.sto i k e) fr st = (if lstSlot fr st i = true then (evE G e fr st).res fr fun p st => (evE G k fr st).res fr fun k st => wrF fr st i (stoF k p) else .bad) := nr (by first | rfl | simp only [exS])
@[simp] theorem s44 (e : E) : exS G (.xpr e) fr st = ((evE G e fr st).res fr fun _ st => .nx fr st) := nr (by first | rfl | simp only [exS])
@[simp] theorem s45 (e : E) : exS G (.ret e) fr st = ((evE G e fr st).res fr fun p st => if keep p = true then .rt p st else .bad) := nr (by first | rfl | simp only [exS])
@[simp] theorem s46  : exS G .retN fr st = (.rt .non st) := nr (by first | rfl | simp only [exS])
@[simp] theorem s47 (e : E) : exS G (.retF e) fr st = ((evE G e fr st).res fr fun p st => match p with | .seq false xs => .rt (.ref st.length) (st ++ [xs]) | _ => .bad) := nr (by first | rfl | simp only [exS])
@[simp] theorem s48 (c : E) (a : S) (b : S) : exS G (.ite c a b) fr st = ((evT G c fr st).res fr fun k st => if k = true then exS G a fr st else exS G b fr st) := nr (by first | rfl | simp only [exS])
@[simp] theorem s49 (t : T) (it : E) (b : S) : exS G (.for t it b) fr st = ((evI G it fr st).res fr fun xs st => forRun t (exS G b) xs fr st) := nr (by first | rfl | simp only [exS])
@[simp] theorem s50 (c : E) (b : S) : exS G (.whl c b) fr st = (whlRun (evT G c) (exS G b) G.fuel fr st) := nr (by first | rfl | simp only [exS])
@[simp] theorem s51  : exS G .brk fr st = (.bk fr st) := nr (by first | rfl | simp only [exS])
@[simp] theorem s52  : exS G .cnt fr st = (.ct fr st) := nr (by first | rfl | simp only [exS])
@[simp] theorem s53 (c : Nat) (l : E) : exS G (.rse c l) fr st = ((evL G l fr st).res fr fun ps st => if fits ps.length = true then .ex c .non fr st else .bad) := nr (by first | rfl | simp only [exS])
@[simp] theorem s54 (b : S) (c : Nat) (i : Nat) (j : Nat) : exS G (.try b c i j) fr st = (tryF G c i j (exS G b fr st)) := nr (by first | rfl | simp only [exS])
@[simp] theorem sO_nil : evO G .nil fr st = .ok none st := nr rfl
@[simp] theorem sC_nil : evC G .nil fr st = .ok true st := nr rfl
end

theorem seq_set {G : Sig} {i : Nat} {e : E} {b : S} {fr : Frm} {st st' : Sto} {p : PV} (h : evE G e fr st = .ok p st') (hk : keep p = true) (hi : i < fr.length) : exS G (.seq (.set i e) b) fr st = exS G b (fr.set i (some (.val p))) st' := by
  simp [h, setF, hk, hi, Res.ofF]
theorem seq_itF {G : Sig} {c : E} {a b : S} {fr : Frm} {st st' : Sto} (h : evT G c fr st = .ok false st') : exS G (.seq (.ite c a .nop) b) fr st = exS G b fr st' := by
  simp [h]
theorem seq_itT {G : Sig} {c : E} {a d b : S} {fr : Frm} {st st' : Sto} (h : evT G c fr st = .ok true st') : exS G (.seq (.ite c a d) b) fr st = (exS G a fr st').then (exS G b) := by
  simp [h]
theorem seq_ret {G : Sig} {e : E} {b : S} {fr : Frm} {st st' : Sto} {p : PV} (h : evE G e fr st = .ok p st') (hk : keep p = true) : exS G (.seq (.ret e) b) fr st = .rt p st' := by
  simp [h, hk]
end Rm
set_option Elab.async false
set_option linter.all false
set_option maxRecDepth 100000
set_option maxHeartbeats 4000000
namespace K01
open PySem PySem.Spec Rm
abbrev topS (i : Nat) : Stmt := PySem.Challenge.pw_rootrooms_k01_primes_and_contraries.main.body.getD i (.Pass ⟨0, 0, 0, 0⟩)
/-- is_whole -/
def F0 : Fn := ⟨"is_whole", 1, [], ["thing"],
 (.seq (.ret (.and (.cons (.isi (.var 0) [.int]) (.cons (.not (.isi (.var 0) [.bool])) .nil))))
 .nop)⟩
/-- is_prime -/
def F1 : Fn := ⟨"is_prime", 1, [], ["thing", "number"],
 (.seq (.ite (.or (.cons (.not (.call 0 (.cons (.var 0) .nil) .nil)) (.cons (.not (.chn .le .le (.cst (.int 2)) (.var 0) (.glb 0))) .nil)))
  (.seq (.ret (.cst (.bl false)))
  .nop)
  .nop)
 (.seq (.ret (.blt .all (.cons (.comp [1] (.cmp .ne (.bin .mod (.var 0) (.var 1)) (.cst (.int 0))) (.nm 1) (.itR (.cons (.cst (.int 2)) (.cons (.var 0) .nil))) .nil) .nil)))
 .nop))⟩
/-- need_prime -/
def F2 : Fn := ⟨"need_prime", 1, [], ["prime"],
 (.seq (.ite (.not (.call 1 (.cons (.var 0) .nil) .nil))
  (.seq (.rse 1 (.cons (.cst (.str "no prime")) .nil))
  .nop)
  .nop)
 .nop)⟩
/-- contrary_of -/
def F3 : Fn := ⟨"contrary_of", 2, [], ["number", "prime", "found", "turn"],
 (.seq (.set 2 (.cst (.int 1)))
 (.seq (.for (.nm 3) (.itR (.cons (.bin .sub (.var 1) (.cst (.int 2))) .nil))
  (.seq (.set 2 (.bin .mod (.bin .mul (.var 2) (.var 0)) (.var 1)))
  .nop))
 (.seq (.ret (.var 2))
 .nop)))⟩
/-- contrary -/
def F4 : Fn := ⟨"contrary", 1, ["prime"], ["number", "prime"],
 (.seq (.xpr (.call 2 (.cons (.var 1) .nil) .nil))
 (.seq (.ite (.or (.cons (.not (.call 0 (.cons (.var 0) .nil) .nil)) (.cons (.not (.chn .le .lt (.cst (.int 1)) (.var 0) (.var 1))) .nil)))
  (.seq (.rse 2 (.cons (.cst (.str "no number with a contrary")) .nil))
  .nop)
  .nop)
 (.seq (.ret (.call 3 (.cons (.var 0) (.cons (.var 1) .nil)) .nil))
 .nop)))⟩
/-- _law_spread -/
def F5 : Fn := ⟨"_law_spread", 2, [], ["cell", "at", "primes", "mixed", "one", "two", "three"],
 (.seq (.ite (.cmp .ge (.var 0) (.bin .pow (.cst (.int 10)) (.cst (.int 18))))
  (.seq (.ret (.var 0))
  .nop)
  .nop)
 (.seq (.set 2 (.lst (.cons (.cst (.int 2147483629)) (.cons (.cst (.int 2147483587)) (.cons (.cst (.int 2147483579)) (.cons (.cst (.int 2147483563)) (.cons (.cst (.int 2147483549)) (.cons (.cst (.int 2147483543)) (.cons (.cst (.int 2147483497)) .nil)))))))))
 (.seq (.set 2 (.bin .add (.var 2) (.lst (.cons (.cst (.int 2147483489)) (.cons (.cst (.int 2147483477)) (.cons (.cst (.int 2147483423)) (.cons (.cst (.int 2147483399)) (.cons (.cst (.int 2147483353)) (.cons (.cst (.int 2147483323)) .nil)))))))))
 (.seq (.set 3 (.bin .add (.bin .add (.bin .mul (.bin .mod (.var 0) (.cst (.int 1000000007))) (.bin .add (.bin .mul (.cst (.int 2)) (.var 1)) (.cst (.int 69069)))) (.bin .mul (.var 1) (.cst (.int 40503)))) (.cst (.int 977))))
 (.seq (.set 4 (.bin .mod (.bin .pow (.var 3) (.cst (.int 3))) (.sub (.var 2) (.bin .mod (.var 1) (.cst (.int 13))))))
 (.seq (.set 5 (.bin .mod (.bin .pow (.bin .add (.bin .add (.bin .mul (.var 4) (.bin .add (.var 1) (.cst (.int 3)))) (.bin .mod (.var 0) (.cst (.int 65537)))) (.cst (.int 5))) (.cst (.int 5))) (.sub (.var 2) (.bin .mod (.bin .add (.var 1) (.cst (.int 5))) (.cst (.int 13))))))
 (.seq (.set 6 (.bin .mod (.bin .pow (.bin .add (.bin .add (.var 5) (.bin .mod (.var 4) (.cst (.int 1009)))) (.var 1)) (.cst (.int 3))) (.sub (.var 2) (.bin .mod (.bin .add (.var 1) (.cst (.int 7))) (.cst (.int 13))))))
 (.seq (.ret (.bin .add (.bin .mul (.bin .add (.bin .mul (.var 4) (.cst (.int 2147483647))) (.var 5)) (.cst (.int 2147483647))) (.var 6)))
 .nop))))))))⟩
/-- _law_open -/
def F6 : Fn := ⟨"_law_open", 1, [], ["script", "cells", "k", "cell"],
 (.seq (.own 1 (.blt .list (.cons (.slc (.var 0) .nil (.cst (.int 12))) .nil)))
 (.seq (.for (.tp (.cons (.nm 2) (.cons (.nm 3) .nil))) (.itE (.slc (.var 0) (.cst (.int 12)) (.cst (.int 63))))
  (.seq (.sto 1 (.bin .mod (.var 2) (.cst (.int 12))) (.bin .add (.sub (.var 1) (.bin .mod (.var 2) (.cst (.int 12)))) (.var 3)))
  .nop))
 (.frz 1 (.seq (.retF (.lst (.cons (.var 1) (.cons (.cst (.int 0)) (.cons (.cst (.int 0)) .nil)))))
 .nop))))⟩
/-- _law_anew -/
def F7 : Fn := ⟨"_law_anew", 1, [], ["pen"],
 (.seq (.sto 0 (.cst (.int 2)) (.cst (.int 0)))
 (.seq (.ret (.var 0))
 .nop))⟩
/-- _law_take -/
def F8 : Fn := ⟨"_law_take", 2, [], ["pen", "many", "found", "at", "cell"],
 (.seq (.ite (.cmp .lt (.sub (.var 0) (.cst (.int 2))) (.var 1))
  (.seq (.set 3 (.sub (.var 0) (.cst (.int 1))))
  (.seq (.set 4 (.cst (.int 0)))
  (.seq (.ite (.cmp .lt (.var 3) (.blt .len (.cons (.sub (.var 0) (.cst (.int 0))) .nil)))
   (.seq (.set 4 (.sub (.sub (.var 0) (.cst (.int 0))) (.var 3)))
   .nop)
   (.seq (.ite (.cmp .gt (.blt .len (.cons (.sub (.var 0) (.cst (.int 0))) .nil)) (.cst (.int 0)))
    (.seq (.set 4 (.bin .mod (.sub (.sub (.var 0) (.cst (.int 0))) (.bin .mod (.bin .add (.bin .mul (.var 3) (.cst (.int 5))) (.cst (.int 3))) (.blt .len (.cons (.sub (.var 0) (.cst (.int 0))) .nil)))) (.bin .add (.bin .pow (.cst (.int 10)) (.cst (.int 17))) (.var 3))))
    .nop)
    .nop)
   .nop))
  (.seq (.sto 0 (.cst (.int 1)) (.bin .add (.var 3) (.cst (.int 1))))
  (.seq (.sto 0 (.cst (.int 2)) (.call 5 (.cons (.var 4) (.cons (.var 3) .nil)) .nil))
  .nop)))))
  .nop)
 (.seq (.set 2 (.bin .mod (.sub (.var 0) (.cst (.int 2))) (.var 1)))
 (.seq (.sto 0 (.cst (.int 2)) (.bin .fdiv (.sub (.var 0) (.cst (.int 2))) (.var 1)))
 (.seq (.ret (.var 2))
 .nop))))⟩
/-- _law_one -/
def F9 : Fn := ⟨"_law_one", 2, [], ["pen", "some"],
 (.seq (.ret (.sub (.var 1) (.call 8 (.cons (.var 0) (.cons (.blt .len (.cons (.var 1) .nil)) .nil)) .nil)))
 .nop)⟩
/-- _law_is_prime -/
def F10 : Fn := ⟨"_law_is_prime", 1, [], ["number", "k"],
 (.seq (.ret (.and (.cons (.cmp .gt (.var 0) (.cst (.int 1))) (.cons (.cmp .lt (.var 0) (.cst (.int 98))) (.cons (.cmp .eq (.comp [1] (.var 1) (.nm 1) (.itR (.cons (.cst (.int 2)) (.cons (.var 0) .nil))) (.cmp .eq (.bin .mod (.var 0) (.var 1)) (.cst (.int 0)))) (.lst .nil)) .nil)))))
 .nop)⟩
/-- _law_word -/
def F11 : Fn := ⟨"_law_word", 2, [], ["number", "p", "e", "some", "caught", "found"],
 (.seq (.tgt (.tp (.cons (.nm 4) (.cons (.nm 5) .nil))) (.tup (.cons (.cst .non) (.cons (.cst .non) .nil))))
 (.seq (.try (.seq (.set 5 (.call 4 (.cons (.var 0) .nil) (.cons (.var 1) .nil)))
  .nop) 0 2 4)
 (.seq (.own 3 (.lst (.cons (.isi (.var 4) [(.cls 1)]) (.cons (.isi (.var 4) [(.cls 2)]) (.cons (.isi (.var 4) [(.cls 3)]) .nil)))))
 (.seq (.app 3 (.isi (.var 4) [(.cls 4)]))
 (.seq (.ite (.cmp .is_ (.var 4) (.cst .non))
  (.seq (.ret (.var 5))
  .nop)
  .nop)
 (.seq (.ret (.ite (.cmp .eq (.cnt (.var 3) (.cst (.bl true))) (.cst (.int 1))) (.sub (.lst (.cons (.cst (.str "prime")) (.cons (.cst (.str "number")) (.cons (.cst (.str "")) (.cons (.cst (.str "")) .nil))))) (.idx (.var 3) (.cst (.bl true)))) (.cst (.str "odd"))))
 .nop))))))⟩
/-- law -/
def F12 : Fn := ⟨"law", 1, [], ["script", "pen", "number", "odd", "thing", "primes", "turn", "p", "found", "bad", "k"],
 (.seq (.set 1 (.call 6 (.cons (.var 0) .nil) .nil))
 (.seq (.for (.nm 2) (.itR (.cons (.bin .sub (.cst (.int 0)) (.cst (.int 5))) (.cons (.cst (.int 121)) .nil)))
  (.seq (.ite (.cmp .ne (.blt .repr (.cons (.call 1 (.cons (.var 2) .nil) .nil) .nil)) (.blt .repr (.cons (.call 10 (.cons (.var 2) .nil) .nil) .nil)))
   (.seq (.ret (.cst (.bl false)))
   .nop)
   .nop)
  .nop))
 (.seq (.set 3 (.lst (.cons (.cst .non) (.cons (.cst (.bl true)) (.cons (.cst (.bl false)) (.cons (.cst (.str "2")) (.cons (.tup (.cons (.cst (.int 2)) .nil)) (.cons (.lst (.cons (.cst (.int 2)) .nil)) (.cons (.bin .add (.bin .pow (.cst (.int 10)) (.cst (.int 30))) (.cst (.int 57))) (.cons (.bin .sub (.cst (.int 0)) (.cst (.int 2))) (.cons (.bin .add (.cst (.int 98)) (.call 8 (.cons (.var 1) (.cons (.bin .pow (.cst (.int 10)) (.cst (.int 6))) .nil)) .nil)) (.cons (.tup .nil) .nil))))))))))))
 (.seq (.for (.nm 4) (.itS (.var 3))
  (.seq (.ite (.cmp .isnot (.call 1 (.cons (.var 4) .nil) .nil) (.cst (.bl false)))
   (.seq (.ret (.cst (.bl false)))
   .nop)
   .nop)
  .nop))
 (.seq (.set 5 (.comp [10] (.var 10) (.nm 10) (.itR (.cons (.cst (.int 98)) .nil)) (.call 10 (.cons (.var 10) .nil) .nil)))
 (.seq (.for (.nm 6) (.itR (.cons (.cst (.int 12)) .nil))
  (.seq (.set 7 (.call 9 (.cons (.call 7 (.cons (.var 1) .nil) .nil) (.cons (.var 5) .nil)) .nil))
  (.seq (.set 2 (.bin .add (.cst (.int 1)) (.call 8 (.cons (.var 1) (.cons (.bin .sub (.var 7) (.cst (.int 1))) .nil)) .nil)))
  (.seq (.set 8 (.call 11 (.cons (.var 2) (.cons (.var 7) .nil)) .nil))
  (.seq (.ite (.or (.cons (.isi (.var 8) [.bool]) (.cons (.not (.isi (.var 8) [.int])) (.cons (.not (.chn .lt .lt (.cst (.int 0)) (.var 8) (.var 7))) (.cons (.cmp .ne (.bin .mod (.bin .mul (.var 8) (.var 2)) (.var 7)) (.cst (.int 1))) .nil)))))
   (.seq (.ret (.cst (.bl false)))
   .nop)
   .nop)
  (.seq (.set 4 (.call 9 (.cons (.var 1) (.cons (.lst (.cons (.cst (.int 0)) (.cons (.var 7) (.cons (.bin .sub (.cst (.int 0)) (.var 2)) (.cons (.cst (.bl true)) (.cons (.cst .non) (.cons (.cst (.str "1")) (.cons (.tup (.cons (.cst (.int 1)) .nil)) (.cons (.bin .add (.var 7) (.var 2)) (.cons (.bin .pow (.cst (.int 10)) (.cst (.int 40))) (.cons (.lst (.cons (.cst (.int 1)) .nil)) (.cons (.cst (.bl false)) .nil)))))))))))) .nil)) .nil))
  (.seq (.ite (.cmp .ne (.call 11 (.cons (.var 4) (.cons (.var 7) .nil)) .nil) (.cst (.str "number")))
   (.seq (.ret (.cst (.bl false)))
   .nop)
   .nop)
  (.seq (.set 9 (.call 9 (.cons (.var 1) (.cons (.lst (.cons (.cst (.int 0)) (.cons (.cst (.int 1)) (.cons (.cst (.int 4)) (.cons (.cst (.int 9)) (.cons (.cst (.int 91)) (.cons (.bin .mul (.cst (.int 97)) (.var 7)) (.cons (.cst (.int 101)) (.cons (.cst .non) (.cons (.cst (.bl true)) (.cons (.cst (.str "3")) (.cons (.tup (.cons (.cst (.int 3)) .nil)) (.cons (.bin .sub (.cst (.int 0)) (.cst (.int 7))) (.cons (.cst (.int 95)) .nil)))))))))))))) .nil)) .nil))
  (.seq (.ite (.or (.cons (.cmp .ne (.call 11 (.cons (.var 2) (.cons (.var 9) .nil)) .nil) (.cst (.str "prime"))) (.cons (.cmp .ne (.call 11 (.cons (.var 4) (.cons (.var 9) .nil)) .nil) (.cst (.str "prime"))) .nil)))
   (.seq (.ret (.cst (.bl false)))
   .nop)
   .nop)
  .nop)))))))))
 (.seq (.ret (.cst (.bl true)))
 .nop)))))))⟩
def fsL : List Fn := [F0, F1, F2, F3, F4, F5, F6, F7, F8, F9, F10, F11, F12]
def glL : List (Str × PV) := [("MOST_PRIME", (.int 97))]
def clL : List Str := ["RoomError", "NoPrime", "NoNumber", "NoMatrix", "NoFit"]
def ancL : List (List Nat) := [[0], [1, 0], [2, 0], [3, 0], [4, 0]]
def rsL : List Nat := [1, 2]
def TL : Gtab := ⟨fsL.map fun F => (F.nm, F.np, F.ks), glL, clL, rsL⟩
theorem ck0 : fnC TL F0 (topS 8) = true := by decide +kernel
theorem ck1 : fnC TL F1 (topS 9) = true := by decide +kernel
theorem ck2 : fnC TL F2 (topS 10) = true := by decide +kernel
theorem ck3 : fnC TL F3 (topS 11) = true := by decide +kernel
theorem ck4 : fnC TL F4 (topS 12) = true := by decide +kernel
theorem ck5 : fnC TL F5 (topS 14) = true := by decide +kernel
theorem ck6 : fnC TL F6 (topS 15) = true := by decide +kernel
theorem ck7 : fnC TL F7 (topS 16) = true := by decide +kernel
theorem ck8 : fnC TL F8 (topS 17) = true := by decide +kernel
theorem ck9 : fnC TL F9 (topS 18) = true := by decide +kernel
theorem ck10 : fnC TL F10 (topS 19) = true := by decide +kernel
theorem ck11 : fnC TL F11 (topS 20) = true := by decide +kernel
theorem ck12 : fnC TL F12 (topS 21) = true := by decide +kernel
end K01
set_option Elab.async false
set_option linter.all false
set_option maxRecDepth 100000
set_option maxHeartbeats 4000000
namespace K01
open PySem PySem.Spec Rm
abbrev SG (n : Nat) : Sig := sigAt fsL (glL.map (·.2)) ancL 0 n
theorem call_at {n j : Nat} {F : Fn} (h : fsL[j]? = some F) (ps : List PV) (st : Sto) : (SG (n + 1)).call j ps st = runFn (SG n) F ps st := by
  show (match fsL[j]? with | some F => runFn (SG n) F ps st | none => .bad) = _
  rw [h]
theorem glb0 (n : Nat) : (SG n).glb = [.int 97] := by cases n <;> rfl
theorem whole_int (n : Nat) (i : Int) (st : Sto) : (SG (n + 1)).call 0 [.int i] st = .ok (.bl true) st := rfl
theorem whole_bl (n : Nat) (i : Bool) (st : Sto) : (SG (n + 1)).call 0 [.bl i] st = .ok (.bl false) st := rfl
theorem whole_non (n : Nat) (st : Sto) : (SG (n + 1)).call 0 [.non] st = .ok (.bl false) st := rfl
theorem whole_str (n : Nat) (x : Str) (st : Sto) : (SG (n + 1)).call 0 [.str x] st = .ok (.bl false) st := rfl
theorem whole_seq (n : Nat) (t : Bool) (x : List PV) (st : Sto) : (SG (n + 1)).call 0 [.seq t x] st = .ok (.bl false) st := by cases t <;> rfl
theorem prime_no (n : Nat) (i : Int) (st : Sto) (h : ¬ (2 ≤ i ∧ i ≤ 97)) : (SG (n + 2)).call 1 [.int i] st = .ok (.bl false) st := by
  rw [call_at (F := F1) rfl]
  by_cases h1 : 2 ≤ i
  · have h2 : ¬ i ≤ 97 := fun z => h ⟨h1, z⟩
    simp [runFn, F1, startF, evT, whole_int, glb0, truF, cmpF, h1, h2, blF, outR, Res.then]
  · simp [runFn, F1, startF, evT, whole_int, glb0, truF, cmpF, h1, blF, outR, Res.then]
theorem prime_non (n : Nat) (p : PV) (st : Sto) (hk : keep p = true) (h : (SG (n + 1)).call 0 [p] st = .ok (.bl false) st) : (SG (n + 2)).call 1 [p] st = .ok (.bl false) st := by
  rw [call_at (F := F1) rfl]
  simp [runFn, F1, startF, evT, h, hk, glb0, truF, cmpF, blF, outR, Res.then]
/-- the primes by a plain look -/
def isP (i : Int) : Bool := decide (2 ≤ i ∧ i ≤ 97) && (List.range (i - 2).toNat).all fun k => decide (i.fmod (2 + (k : Nat)) ≠ 0)
/-- a comprehension without a test whose items tell plain values -/
theorem comp_map {els : Frm → Sto → Out PV} {i : Nat} {fr : Frm} {st : Sto} (hi : i < fr.length) (g : PV → PV) : ∀ (xs acc : List PV), (∀ x ∈ xs, els (fr.set i (some (.val x))) st = .ok (g x) st ∧ keep (g x) = true) →
    compRun els (fun _ st => .ok true st) (.nm i) fr xs acc st = .ok (acc ++ xs.map g) st
  | [], acc, _ => by simp [compRun]
  | x :: xs, acc, h => by
    obtain ⟨h1, h2⟩ := h x (by simp)
    unfold compRun
    simp only [asg, hi, if_true, h1, h2]
    rw [comp_map hi g xs (acc ++ [g x]) fun y hy => h y (List.mem_cons_of_mem _ hy)]
    simp
@[simp] theorem eqF_int (a b : Int) : eqF (.int a) (.int b) = some (decide (a = b)) := by
  simp [eqF, okEq, isDat, dat, PyData.depth, PyData.eqv]
  rfl
theorem boolL_map {α : Type} (f : α → Bool) : ∀ l : List α, boolL (l.map fun x => PV.bl (f x)) = some (l.map f)
  | [] => rfl
  | x :: l => by simp [boolL, boolL_map f l]
@[simp] theorem inRange_eq (i : Int) : (inRange i = true) = (-(2 ^ 62) ≤ i ∧ i < 2 ^ 62) := by simp [inRange]
@[simp] theorem fits_eq (i : Nat) : (fits i = true) = (i ≤ sizeLine) := by simp [fits]
theorem rng2 (a b : Int) (h : -(2 ^ 62) ≤ a ∧ a < 2 ^ 62) (h2 : -(2 ^ 62) ≤ b ∧ b < 2 ^ 62) (h3 : (b - a).toNat ≤ sizeLine) : rngF [.int a, .int b] = some (rangeF a (b - a).toNat) := by
  show (if inRange a = true ∧ inRange b = true ∧ fits (b - a).toNat = true then some (rangeF a (b - a).toNat) else none) = _
  rw [if_pos]
  simp only [inRange_eq, fits_eq]
  exact ⟨h, h2, h3⟩
theorem rng1 (b : Int) (h2 : -(2 ^ 62) ≤ b ∧ b < 2 ^ 62) (h3 : b.toNat ≤ sizeLine) : rngF [.int b] = some (rangeF 0 b.toNat) := by
  show (if inRange b = true ∧ fits b.toNat = true then some (rangeF 0 b.toNat) else none) = _
  rw [if_pos]
  simp only [inRange_eq, fits_eq]
  exact ⟨h2, h3⟩
theorem szl : sizeLine = 16777216 := rfl
def ndv (i : Int) : PV → PV
  | .int k => .bl (decide (i.fmod k ≠ 0))
  | _ => .non
theorem prime_int (n : Nat) (i : Int) (st : Sto) : (SG (n + 2)).call 1 [.int i] st = .ok (.bl (isP i)) st := by
  by_cases h : 2 ≤ i ∧ i ≤ 97
  · rw [call_at (F := F1) rfl]
    have hr : rngF [.int 2, .int i] = some (rangeF 2 (i - 2).toNat) := rng2 2 i (by omega) (by omega) (by rw [szl]; omega)
    have hc : ∀ fr0 : Frm, 1 < fr0.length → fr0[0]? = some (some (.val (.int i))) → compRun (evE (SG (n + 1)) (.cmp .ne (.bin .mod (.var 0) (.var 1)) (.cst (.int 0)))) (evC (SG (n + 1)) .nil) (.nm 1) fr0 (rangeF 2 (i - 2).toNat) [] st = .ok ((rangeF 2 (i - 2).toNat).map (ndv i)) st := fun fr0 hl h0 => by
      rw [show evC (SG (n + 1)) .nil = fun _ st => .ok true st from rfl, comp_map hl (ndv i) _ [] (fun x hx => ?_)]
      · simp
      · unfold rangeF at hx
        obtain ⟨k, hk, rfl⟩ := List.mem_map.mp hx
        have hz : (2 + (k : Int)) ≠ 0 := by omega
        have g0 : (fr0.set 1 (some (.val (.int (2 + (k : Int))))))[0]? = some (some (.val (.int i))) := by
          rw [List.getElem?_set_ne (by decide)]
          exact h0
        have g1 : (fr0.set 1 (some (.val (.int (2 + (k : Int))))))[1]? = some (some (.val (.int (2 + (k : Int))))) := List.getElem?_set_self hl
        simp [g0, g1, binF, hz, cmpF, ndv]
    have hm : (rangeF 2 (i - 2).toNat).map (ndv i) = (List.range (i - 2).toNat).map fun k => PV.bl (decide (i.fmod (2 + (k : Nat)) ≠ 0)) := by
      unfold rangeF
      rw [List.map_map]
      rfl
    have hw := hc (wipeF [some (.val (.int i)), none] [1]) (by simp [wipeF]) (by simp [wipeF])
    simp [runFn, F1, startF, evT, whole_int, glb0, truF, cmpF, h.1, h.2, blF, outR, Res.then, hr, hw, hm, bltF, boolL_map, isP]
  · rw [prime_no n i st h]
    unfold isP
    rw [decide_eq_false h]
    rfl
theorem need_ok (n : Nat) (p : PV) (st : Sto) (hk : keep p = true) (h : (SG (n + 2)).call 1 [p] st = .ok (.bl true) st) : (SG (n + 3)).call 2 [p] st = .ok .non st := by
  rw [call_at (F := F2) rfl]
  simp [runFn, F2, startF, evT, h, hk, truF, outR, Res.then]
theorem need_no (n : Nat) (p : PV) (st : Sto) (hk : keep p = true) (h : (SG (n + 2)).call 1 [p] st = .ok (.bl false) st) : (SG (n + 3)).call 2 [p] st = .exc 1 .non st := by
  rw [call_at (F := F2) rfl]
  simp [runFn, F2, startF, evT, h, hk, truF, outR, Res.then, szl]
/-- the loop of contrary_of -/
def powm (x p : Int) : Nat → Int → Int
  | 0, z => z
  | k + 1, z => powm x p k ((z * x).fmod p)
theorem pow_loop (n : Nat) (x p : Int) (hp : p ≠ 0) (hx : small x = true) (st : Sto) : ∀ (k : Nat) (lo : Int) (z : Int) (t : Option FV), ∃ t', forRun (.nm 3) (exS (SG n) (.seq (.set 2 (.bin .mod (.bin .mul (.var 2) (.var 0)) (.var 1))) .nop)) ((List.range k).map fun j => PV.int (lo + (j : Nat))) [some (.val (.int x)), some (.val (.int p)), some (.val (.int z)), t] st =
    .nx [some (.val (.int x)), some (.val (.int p)), some (.val (.int (powm x p k z))), t'] st
  | 0, lo, z, t => ⟨t, rfl⟩
  | k + 1, lo, z, t => by
    obtain ⟨t', ih⟩ := pow_loop n x p hp hx st k (lo + 1) ((z * x).fmod p) (some (.val (.int lo)))
    refine ⟨t', ?_⟩
    rw [List.range_succ_eq_map, List.map_cons, List.map_map]
    have e : ((fun j : Nat => PV.int (lo + (j : Nat))) ∘ Nat.succ) = fun j : Nat => PV.int (lo + 1 + (j : Nat)) := by
      funext j
      show PV.int (lo + ((j + 1 : Nat) : Int)) = _
      congr 1
      omega
    rw [e]
    unfold forRun
    simp [asg, binF, hx, hp, setF, Res.ofF, Res.then]
    exact ih
theorem cont_of (n : Nat) (x p : Int) (st : Sto) (hp : 2 ≤ p ∧ p ≤ 97) (hx : 1 ≤ x ∧ x < p) : (SG (n + 1)).call 3 [.int x, .int p] st = .ok (.int (powm x p (p - 2).toNat 1)) st := by
  rw [call_at (F := F3) rfl]
  have hr : rngF [.int (p - 2)] = some (rangeF 0 (p - 2).toNat) := rng1 (p - 2) (by omega) (by rw [szl]; omega)
  obtain ⟨t', ht⟩ := pow_loop n x p (by omega) (by simp [small]; omega) st (p - 2).toNat 0 1 none
  have e : rangeF 0 (p - 2).toNat = (List.range (p - 2).toNat).map fun j => PV.int (0 + (j : Nat)) := rfl
  rw [← e] at ht
  simp [runFn, F3, startF, evT, binF, hr, setF, Res.ofF]
  rw [ht]
  simp [outR]
theorem contr_ok (n : Nat) (x p : Int) (st : Sto) (hp : isP p = true) (hx : 1 ≤ x ∧ x < p) : (SG (n + 4)).call 4 [.int x, .int p] st = .ok (.int (powm x p (p - 2).toNat 1)) st := by
  have h2 : 2 ≤ p ∧ p ≤ 97 := by
    unfold isP at hp
    simp only [Bool.and_eq_true, decide_eq_true_eq] at hp
    exact hp.1
  rw [call_at (F := F4) rfl]
  have e1 := need_ok n (.int p) st rfl (by rw [prime_int, hp])
  have e2 := cont_of (n + 2) x p st h2 hx
  simp [runFn, F4, startF, evT, e1, e2, whole_int, truF, cmpF, hx.1, hx.2, blF, outR]
/-- contrary refuses: no prime first -/
theorem contr_np (n : Nat) (x q : PV) (st : Sto) (kx : keep x = true) (kq : keep q = true) (h : (SG (n + 2)).call 1 [q] st = .ok (.bl false) st) : (SG (n + 4)).call 4 [x, q] st = .exc 1 .non st := by
  rw [call_at (F := F4) rfl]
  have e1 := need_no n q st kq h
  simp [runFn, F4, startF, evT, e1, kx, kq, outR]
theorem contr_nn (n : Nat) (x : PV) (p : Int) (st : Sto) (kx : keep x = true) (hp : isP p = true) (h : (SG (n + 3)).call 0 [x] st = .ok (.bl false) st ∨ ∃ i : Int, x = .int i ∧ ¬ (1 ≤ i ∧ i < p)) : (SG (n + 4)).call 4 [x, .int p] st = .exc 2 .non st := by
  rw [call_at (F := F4) rfl]
  have e1 := need_ok n (.int p) st rfl (by rw [prime_int, hp])
  rcases h with h | ⟨i, rfl, h⟩
  · simp [runFn, F4, startF, evT, e1, h, kx, truF, blF, outR, szl]
  · by_cases h1 : 1 ≤ i
    · have h2 : ¬ i < p := fun z => h ⟨h1, z⟩
      simp [runFn, F4, startF, evT, e1, whole_int, truF, cmpF, h1, h2, blF, outR, szl]
    · simp [runFn, F4, startF, evT, e1, whole_int, truF, cmpF, h1, blF, outR, szl]
/-- what the law's word says -/
theorem word_ok (n : Nat) (x q : PV) (z : Int) (st : Sto) (kx : keep x = true) (kq : keep q = true) (h : (SG (n + 4)).call 4 [x, q] st = .ok (.int z) st) : (SG (n + 5)).call 11 [x, q] st = .ok (.int z) st := by
  rw [call_at (F := F11) rfl]
  simp [runFn, F11, startF, evT, h, kx, kq, truF, blF, outR, szl, asg, asgL, Res.ofF, setF, ownF, tryF, isiAny, isiF, appF, wrF, lstSlot, cmpF, isF]
theorem word_ex (n : Nat) (x q : PV) (c : Nat) (hc : c = 1 ∨ c = 2) (st : Sto) (kx : keep x = true) (kq : keep q = true) (h : (SG (n + 4)).call 4 [x, q] st = .exc c .non st) : (SG (n + 5)).call 11 [x, q] st = .ok (.str (if c = 1 then "prime" else "number")) st := by
  rw [call_at (F := F11) rfl]
  have an : (SG (n + 4)).anc = ancL := rfl
  rcases hc with rfl | rfl
  · simp [runFn, F11, startF, evT, h, kx, kq, truF, blF, outR, szl, asg, asgL, Res.ofF, setF, ownF, tryF, isiAny, isiF, appF, wrF, lstSlot, cmpF, isF, an, ancL]
    rfl
  · simp [runFn, F11, startF, evT, h, kx, kq, truF, blF, outR, szl, asg, asgL, Res.ofF, setF, ownF, tryF, isiAny, isiF, appF, wrF, lstSlot, cmpF, isF, an, ancL]
    rfl
theorem dats_ints : ∀ l : List Int, dats (l.map PV.int) = l.map PyData.int
  | [] => rfl
  | x :: l => by simp [dats, dat, dats_ints l]
theorem areDat_ints : ∀ l : List Int, areDat (l.map PV.int) = true
  | [] => rfl
  | x :: l => by simp [areDat, isDat, areDat_ints l]
theorem depth_ints : ∀ l : List Int, PyData.depthAll (l.map PyData.int) = 0
  | [] => rfl
  | x :: l => by simp [PyData.depthAll, PyData.depth, depth_ints l]
theorem okEq_ints (t : Bool) (l : List Int) : okEq (.seq t (l.map PV.int)) = true := by
  cases t <;> simp [okEq, isDat, areDat_ints, dat, dats_ints, PyData.depth, depth_ints]
theorem eqF_nil (l : List Int) : eqF (.seq false (l.map PV.int)) (.seq false []) = some (decide (l = [])) := by
  unfold eqF
  rw [if_pos ⟨okEq_ints false l, okEq_ints false []⟩]
  cases l with
  | nil => rfl
  | cons x l => rfl
/-- a comprehension of the walked items that pass a test -/
theorem comp_filter {cnd : Frm → Sto → Out Bool} {els : Frm → Sto → Out PV} {i : Nat} {fr : Frm} {st : Sto} (hi : i < fr.length) (c : PV → Bool) : ∀ (xs acc : List PV), (∀ x ∈ xs, cnd (fr.set i (some (.val x))) st = .ok (c x) st ∧ els (fr.set i (some (.val x))) st = .ok x st ∧ keep x = true) →
    compRun els cnd (.nm i) fr xs acc st = .ok (acc ++ xs.filter c) st
  | [], acc, _ => by simp [compRun]
  | x :: xs, acc, h => by
    obtain ⟨h1, h2, h3⟩ := h x (by simp)
    unfold compRun
    simp only [asg, hi, if_true, h1]
    cases hc : c x with
    | true =>
      simp only [h2, h3, if_true]
      rw [comp_filter hi c xs (acc ++ [x]) fun y hy => h y (List.mem_cons_of_mem _ hy)]
      simp [hc]
    | false =>
      simp only
      rw [comp_filter hi c xs acc fun y hy => h y (List.mem_cons_of_mem _ hy)]
      simp [hc]
def dvB (i : Int) : PV → Bool
  | .int k => decide (i.fmod k = 0)
  | _ => false
theorem lawp_int (n : Nat) (i : Int) (st : Sto) (hi : i < 1000) : (SG (n + 1)).call 10 [.int i] st = .ok (.bl (isP i)) st := by
  rw [call_at (F := F10) rfl]
  by_cases h1 : 1 < i
  · by_cases h2 : i < 98
    · have hr : rngF [.int 2, .int i] = some (rangeF 2 (i - 2).toNat) := rng2 2 i (by omega) (by omega) (by rw [szl]; omega)
      have hc : ∀ fr0 : Frm, 1 < fr0.length → fr0[0]? = some (some (.val (.int i))) → compRun (evE (SG n) (.var 1)) (evC (SG n) (.cmp .eq (.bin .mod (.var 0) (.var 1)) (.cst (.int 0)))) (.nm 1) fr0 (rangeF 2 (i - 2).toNat) [] st = .ok ((rangeF 2 (i - 2).toNat).filter (dvB i)) st := fun fr0 hl h0 => by
        rw [comp_filter hl (dvB i) _ [] (fun x hx => ?_)]
        · simp
        · unfold rangeF at hx
          obtain ⟨k, hk, rfl⟩ := List.mem_map.mp hx
          have hz : (2 + (k : Int)) ≠ 0 := by omega
          have g0 : (fr0.set 1 (some (.val (.int (2 + (k : Int))))))[0]? = some (some (.val (.int i))) := by
            rw [List.getElem?_set_ne (by decide)]
            exact h0
          have g1 : (fr0.set 1 (some (.val (.int (2 + (k : Int))))))[1]? = some (some (.val (.int (2 + (k : Int))))) := List.getElem?_set_self hl
          rw [evC_some (by intro z; cases z)]
          simp [evT, g0, g1, binF, hz, cmpF, dvB, truF]
      have hm : (rangeF 2 (i - 2).toNat).filter (dvB i) = (((List.range (i - 2).toNat).filter fun k => decide (i.fmod (2 + (k : Nat)) = 0)).map fun k => (2 + (k : Nat) : Int)).map PV.int := by
        unfold rangeF
        rw [List.filter_map, List.map_map]
        rfl
      have hw := hc (wipeF [some (.val (.int i)), none] [1]) (by simp [wipeF]) (by simp [wipeF])
      have hq : (decide ((((List.range (i - 2).toNat).filter fun k => decide (i.fmod (2 + (k : Nat)) = 0)).map fun k => (2 + (k : Nat) : Int)) = [])) = ((List.range (i - 2).toNat).all fun k => decide (i.fmod (2 + (k : Nat)) ≠ 0)) := by
        rw [Bool.eq_iff_iff, decide_eq_true_eq, List.map_eq_nil_iff, List.filter_eq_nil_iff, List.all_eq_true]
        simp
      have hP : isP i = ((List.range (i - 2).toNat).all fun k => decide (i.fmod (2 + (k : Nat)) ≠ 0)) := by
        unfold isP
        rw [decide_eq_true (by omega), Bool.true_and]
      rw [hP, ← hq]
      revert hm
      generalize (((List.range (i - 2).toNat).filter fun k => decide (i.fmod (2 + (k : Nat)) = 0)).map fun k => (2 + (k : Nat) : Int)) = L
      intro hm
      by_cases hL : L = []
      · subst hL
        simp [runFn, F10, startF, evT, truF, cmpF, h1, h2, blF, outR, hr, hw, hm, eqF_nil]
        rfl
      · simp [runFn, F10, startF, evT, truF, cmpF, h1, h2, blF, outR, hr, hw, hm, eqF_nil, hL]
    · have hP : isP i = false := by
        unfold isP
        rw [decide_eq_false (by omega), Bool.false_and]
      simp [runFn, F10, startF, evT, truF, cmpF, h1, h2, blF, outR, hP]
  · have hP : isP i = false := by
      unfold isP
      rw [decide_eq_false (by omega), Bool.false_and]
    simp [runFn, F10, startF, evT, truF, cmpF, h1, blF, outR, hP]
/-- the pen: cells, how many are taken, the rest -/
def pen (cs : List Int) (a z : Int) : Sto := [[.seq false (cs.map .int), .int a, .int z]]
def prs : List Int := [2147483629, 2147483587, 2147483579, 2147483563, 2147483549, 2147483543, 2147483497, 2147483489, 2147483477, 2147483423, 2147483399, 2147483353, 2147483323]
theorem prs_at (a0 : Int) (h0 : 0 ≤ a0) : ∃ q : Int, 2147483322 < q ∧ q < 2147483648 ∧ idxF (.seq false (prs.map .int)) (.int (a0.fmod 13)) = some (.int q) := by
  obtain ⟨a, rfl⟩ : ∃ a : Nat, a0 = (a : Int) := ⟨a0.toNat, by omega⟩
  have h : (a : Int).fmod 13 = ((a % 13 : Nat) : Int) := by
    rw [Int.fmod_eq_emod_of_nonneg _ (by decide)]
    omega
  rw [h]
  have hl : a % 13 < 13 := Nat.mod_lt _ (by decide)
  generalize a % 13 = r at hl
  have key : ∀ r, r < 13 → ∃ q : Int, 2147483322 < q ∧ q < 2147483648 ∧ idxF (.seq false (prs.map .int)) (.int ((r : Nat) : Int)) = some (.int q) := by
    intro r hr
    match r, hr with
    | 0, _ => exact ⟨2147483629, by decide, by decide, rfl⟩
    | 1, _ => exact ⟨2147483587, by decide, by decide, rfl⟩
    | 2, _ => exact ⟨2147483579, by decide, by decide, rfl⟩
    | 3, _ => exact ⟨2147483563, by decide, by decide, rfl⟩
    | 4, _ => exact ⟨2147483549, by decide, by decide, rfl⟩
    | 5, _ => exact ⟨2147483543, by decide, by decide, rfl⟩
    | 6, _ => exact ⟨2147483497, by decide, by decide, rfl⟩
    | 7, _ => exact ⟨2147483489, by decide, by decide, rfl⟩
    | 8, _ => exact ⟨2147483477, by decide, by decide, rfl⟩
    | 9, _ => exact ⟨2147483423, by decide, by decide, rfl⟩
    | 10, _ => exact ⟨2147483399, by decide, by decide, rfl⟩
    | 11, _ => exact ⟨2147483353, by decide, by decide, rfl⟩
    | 12, _ => exact ⟨2147483323, by decide, by decide, rfl⟩
  exact key r hl
theorem fm_rng (x q : Int) (h : 0 < q) : 0 ≤ x.fmod q ∧ x.fmod q < q := ⟨Int.fmod_nonneg_of_pos x h, Int.fmod_lt_of_pos x h⟩
theorem mul_le' {a b c d : Int} (h1 : 0 ≤ a) (h2 : a ≤ c) (h3 : 0 ≤ b) (h4 : b ≤ d) : 0 ≤ a * b ∧ a * b ≤ c * d :=
  ⟨Int.mul_nonneg h1 h3, Int.mul_le_mul h2 h4 h3 (Int.le_trans h1 h2)⟩
theorem bmul (i j : Int) (h : small i = true ∨ small j = true) : binF .mul (.int i) (.int j) = some (.int (i * j)) := if_pos h
theorem bmod (i j : Int) (h : j ≠ 0) : binF .mod (.int i) (.int j) = some (.int (i.fmod j)) := if_pos h
theorem bpow (i j : Int) (h : 0 ≤ j) (h2 : j ≤ 1000000) (h3 : i.natAbs < 2 ^ 64) : binF .pow (.int i) (.int j) = some (.int (i ^ j.toNat)) := if_pos ⟨h, h2, h3⟩
theorem bpow3 (i : Int) (h3 : i.natAbs < 2 ^ 64) : binF .pow (.int i) (.int 3) = some (.int (i ^ 3)) := bpow i 3 (by decide) (by decide) h3
theorem bpow5 (i : Int) (h3 : i.natAbs < 2 ^ 64) : binF .pow (.int i) (.int 5) = some (.int (i ^ 5)) := bpow i 5 (by decide) (by decide) h3
theorem sm {i : Int} (h : 0 ≤ i) (h2 : i < 2 ^ 64) : small i = true := by
  simp only [small, decide_eq_true_eq]
  omega
end K01
set_option Elab.async false
set_option linter.all false
set_option maxRecDepth 100000
set_option maxHeartbeats 4000000
namespace K01
open PySem PySem.Spec Rm
section
variable (n : Nat) (c m u one two q1 q2 q3 : Int) (a : Int) (st : Sto) (ys : PV) 
theorem v3 (fr : Frm) (h0 : fr[0]? = some (some (.val (.int c)))) (h1 : fr[1]? = some (some (.val (.int a)))) (k0 : binF .mul (.int 2) (.int a) = some (.int (2 * a))) (k1 : binF .mul (.int (c.fmod 1000000007)) (.int (2 * a + 69069)) = some (.int m)) (k2 : binF .mul (.int a) (.int 40503) = some (.int (a * 40503))) : evE (SG n) (.bin .add (.bin .add (.bin .mul (.bin .mod (.var 0) (.cst (.int 1000000007))) (.bin .add (.bin .mul (.cst (.int 2)) (.var 1)) (.cst (.int 69069)))) (.bin .mul (.var 1) (.cst (.int 40503)))) (.cst (.int 977))) fr st = .ok (.int (m + a * 40503 + 977)) st := by
  have d1 := bmod c 1000000007 (by decide)
  have ad : ∀ i j : Int, binF .add (.int i) (.int j) = some (.int (i + j)) := fun _ _ => rfl
  simp only [s6, s1, s2, Out.bind_ok, deref_int, Out.of_some, h0, h1, d1, k0, ad, k1, k2]
theorem v4 (fr : Frm) (h3 : fr[3]? = some (some (.val (.int m)))) (h1 : fr[1]? = some (some (.val (.int a)))) (h2 : fr[2]? = some (some (.val ys))) (k3 : binF .pow (.int m) (.int 3) = some (.int (m ^ 3))) (e1 : idxF ys (.int (a.fmod 13)) = some (.int q1)) (dy : ∀ fr st, deref fr st ys = ys)
   (k4 : binF .mod (.int (m ^ 3)) (.int q1) = some (.int one)) : evE (SG n) (.bin .mod (.bin .pow (.var 3) (.cst (.int 3))) (.sub (.var 2) (.bin .mod (.var 1) (.cst (.int 13))))) fr st = .ok (.int one) st := by
  have d2 := bmod a 13 (by decide)
  simp [h3, h1, h2, k3, d2, dy, e1, k4]
theorem v5 (fr : Frm) (h0 : fr[0]? = some (some (.val (.int c)))) (h1 : fr[1]? = some (some (.val (.int a)))) (h2 : fr[2]? = some (some (.val ys))) (h4 : fr[4]? = some (some (.val (.int one)))) (k5 : binF .mul (.int one) (.int (a + 3)) = some (.int u)) (k6 : binF .pow (.int (u + c.fmod 65537 + 5)) (.int 5) = some (.int ((u + c.fmod 65537 + 5) ^ 5)))
   (e2 : idxF ys (.int ((a + 5).fmod 13)) = some (.int q2)) (dy : ∀ fr st, deref fr st ys = ys) (k7 : binF .mod (.int ((u + c.fmod 65537 + 5) ^ 5)) (.int q2) = some (.int two)) :
   evE (SG n) (.bin .mod (.bin .pow (.bin .add (.bin .add (.bin .mul (.var 4) (.bin .add (.var 1) (.cst (.int 3)))) (.bin .mod (.var 0) (.cst (.int 65537)))) (.cst (.int 5))) (.cst (.int 5))) (.sub (.var 2) (.bin .mod (.bin .add (.var 1) (.cst (.int 5))) (.cst (.int 13))))) fr st = .ok (.int two) st := by
  have d5 := bmod c 65537 (by decide)
  have d3 := bmod (a + 5) 13 (by decide)
  have ad : ∀ i j : Int, binF .add (.int i) (.int j) = some (.int (i + j)) := fun _ _ => rfl
  simp [h0, h1, h2, h4, k5, k6, d3, d5, dy, e2, k7, ad]
theorem v6 (fr : Frm) (h1 : fr[1]? = some (some (.val (.int a)))) (h2 : fr[2]? = some (some (.val ys))) (h4 : fr[4]? = some (some (.val (.int one)))) (h5 : fr[5]? = some (some (.val (.int two)))) (k8 : binF .pow (.int (two + one.fmod 1009 + a)) (.int 3) = some (.int ((two + one.fmod 1009 + a) ^ 3)))
   (e3 : idxF ys (.int ((a + 7).fmod 13)) = some (.int q3)) (dy : ∀ fr st, deref fr st ys = ys) (k9 : binF .mod (.int ((two + one.fmod 1009 + a) ^ 3)) (.int q3) = some (.int u)) :
   evE (SG n) (.bin .mod (.bin .pow (.bin .add (.bin .add (.var 5) (.bin .mod (.var 4) (.cst (.int 1009)))) (.var 1)) (.cst (.int 3))) (.sub (.var 2) (.bin .mod (.bin .add (.var 1) (.cst (.int 7))) (.cst (.int 13))))) fr st = .ok (.int u) st := by
  have d6 := bmod one 1009 (by decide)
  have d4 := bmod (a + 7) 13 (by decide)
  have ad : ∀ i j : Int, binF .add (.int i) (.int j) = some (.int (i + j)) := fun _ _ => rfl
  simp [h1, h2, h4, h5, k8, k9, d4, d6, dy, e3, ad]
theorem v7 (fr : Frm) (h4 : fr[4]? = some (some (.val (.int one)))) (h5 : fr[5]? = some (some (.val (.int two)))) (h6 : fr[6]? = some (some (.val (.int u)))) : evE (SG n) (.bin .add (.bin .mul (.bin .add (.bin .mul (.var 4) (.cst (.int 2147483647))) (.var 5)) (.cst (.int 2147483647))) (.var 6)) fr st = .ok (.int ((one * 2147483647 + two) * 2147483647 + u)) st := by
  have k10 := bmul one 2147483647 (.inr rfl)
  have k11 := bmul (one * 2147483647 + two) 2147483647 (.inr rfl)
  have ad : ∀ i j : Int, binF .add (.int i) (.int j) = some (.int (i + j)) := fun _ _ => rfl
  simp [h4, h5, h6, k10, k11, ad]
end
theorem spread_ok (n : Nat) (c a : Int) (st : Sto) (h0 : 0 ≤ a) (ha : a < 100000) : ∃ z : Int, (SG (n + 1)).call 5 [.int c, .int a] st = .ok (.int z) st := by
  rw [call_at (F := F5) rfl]
  have p18 : binF .pow (.int 10) (.int 18) = some (.int 1000000000000000000) := rfl
  by_cases hc : 1000000000000000000 ≤ c
  · exact ⟨c, by simp [runFn, F5, startF, evT, p18, cmpF, hc, truF, outR]⟩
  · obtain ⟨q1, a1, b1, e1⟩ := prs_at a h0
    obtain ⟨q2, a2, b2, e2⟩ := prs_at (a + 5) (by omega)
    obtain ⟨q3, a3, b3, e3⟩ := prs_at (a + 7) (by omega)
    have m1 := fm_rng c 1000000007 (by decide)
    have m2 := fm_rng c 65537 (by decide)
    have k0 := bmul 2 a (.inl rfl)
    have k1 := bmul (c.fmod 1000000007) (2 * a + 69069) (.inl (sm m1.1 (by omega)))
    have k2 := bmul a 40503 (.inr rfl)
    have r1 := mul_le' m1.1 (Int.le_of_lt m1.2) (b := 2 * a + 69069) (d := 269069) (by omega) (by omega)
    generalize hm : c.fmod 1000000007 * (2 * a + 69069) = m at r1 k1
    have k3 := bpow3 (m + a * 40503 + 977) (by omega)
    have k4 := bmod ((m + a * 40503 + 977) ^ 3) q1 (by omega)
    have o1 := fm_rng ((m + a * 40503 + 977) ^ 3) q1 (by omega)
    generalize ho : ((m + a * 40503 + 977) ^ 3).fmod q1 = one at o1 k4
    have k5 := bmul one (a + 3) (.inl (sm o1.1 (by omega)))
    have r2 := mul_le' o1.1 (show one ≤ 2147483648 by omega) (b := a + 3) (d := 100003) (by omega) (by omega)
    generalize hu : one * (a + 3) = u at r2 k5
    have k6 := bpow5 (u + c.fmod 65537 + 5) (by omega)
    have k7 := bmod ((u + c.fmod 65537 + 5) ^ 5) q2 (by omega)
    have o2 := fm_rng ((u + c.fmod 65537 + 5) ^ 5) q2 (by omega)
    generalize ht : ((u + c.fmod 65537 + 5) ^ 5).fmod q2 = two at o2 k7
    have o3 := fm_rng one 1009 (by decide)
    have k8 := bpow3 (two + one.fmod 1009 + a) (by omega)
    have k9 := bmod ((two + one.fmod 1009 + a) ^ 3) q3 (by omega)
    generalize hw : ((two + one.fmod 1009 + a) ^ 3).fmod q3 = w at k9
    have pl : ∃ ys, binF .add (.seq false [.int 2147483629, .int 2147483587, .int 2147483579, .int 2147483563, .int 2147483549, .int 2147483543, .int 2147483497]) (.seq false [.int 2147483489, .int 2147483477, .int 2147483423, .int 2147483399, .int 2147483353, .int 2147483323]) = some ys ∧ ys = .seq false (prs.map .int) := ⟨_, rfl, rfl⟩
    obtain ⟨ys, pl1, pl2⟩ := pl
    have ky : keep ys = true := by rw [pl2]; rfl
    have dy : ∀ fr st, deref fr st ys = ys := by rw [pl2]; intros; rfl
    rw [← pl2] at e1 e2 e3
    clear pl2
    have hb : exS (SG n) F5.body [some (.val (.int c)), some (.val (.int a)), none, none, none, none, none] st = .rt (.int ((one * 2147483647 + two) * 2147483647 + w)) st := by
      dsimp only [F5]
      rw [seq_itF (st' := st) (by simp [evT, p18, cmpF, hc, truF])]
      rw [seq_set (st' := st) (p := .seq false [.int 2147483629, .int 2147483587, .int 2147483579, .int 2147483563, .int 2147483549, .int 2147483543, .int 2147483497]) (by simp [szl]) rfl (by simp)]
      rw [seq_set (st' := st) (p := ys) (by simp [szl, pl1]) ky (by simp)]
      rw [seq_set (st' := st) (p := .int (m + a * 40503 + 977)) (v3 n c m a st _ (by simp) (by simp) k0 k1 k2) rfl (by simp)]
      rw [seq_set (st' := st) (p := .int one) (v4 n (m + a * 40503 + 977) one q1 a st ys _ (by simp) (by simp) (by simp) k3 e1 dy k4) rfl (by simp)]
      rw [seq_set (st' := st) (p := .int two) (v5 n c u one two q2 a st ys _ (by simp) (by simp) (by simp) (by simp) k5 k6 e2 dy k7) rfl (by simp)]
      rw [seq_set (st' := st) (p := .int w) (v6 n w one two q3 a st ys _ (by simp) (by simp) (by simp) (by simp) k8 e3 dy k9) rfl (by simp)]
      rw [seq_ret (st' := st) (v7 n w one two st _ (by simp) (by simp) (by simp)) rfl]
    refine ⟨(one * 2147483647 + two) * 2147483647 + w, ?_⟩
    show outR (exS (SG n) F5.body [some (.val (.int c)), some (.val (.int a)), none, none, none, none, none] st) = _
    rw [hb]
    rfl
end K01
set_option Elab.async false
set_option linter.all false
set_option maxRecDepth 100000
set_option maxHeartbeats 4000000
namespace K01
open PySem PySem.Spec Rm
theorem at_get {xs : List PV} {i : Int} {j : Nat} {p : PV} (t : Bool) (h : i = (j : Int)) (hp : xs[j]? = some p) : idxF (.seq t xs) (.int i) = some p := by
  have hj : j < xs.length := (List.getElem?_eq_some_iff.mp hp).1
  show L2.atI xs i = some p
  unfold L2.atI L2.ixN
  rw [if_pos (by omega), if_pos (by omega)]
  show xs[i.toNat]? = some p
  rw [show i.toNat = j by omega]
  exact hp
theorem at_in (cs : List Int) (i : Int) (h0 : 0 ≤ i) (h : i < cs.length) : ∃ c : Int, idxF (.seq false (cs.map .int)) (.int i) = some (.int c) := by
  have hj : i.toNat < cs.length := by omega
  exact ⟨cs[i.toNat], at_get false (j := i.toNat) (by omega) (by simp [hj])⟩
section
variable (cs : List Int) (a z : Int) (fr : Frm)
@[simp] theorem pd : deref fr (pen cs a z) (.ref 0) = .seq false [.seq false (cs.map .int), .int a, .int z] := rfl
@[simp] theorem p0 (x y w : PV) : idxF (.seq false [x, y, w]) (.int 0) = some x := rfl
@[simp] theorem p1 (x y w : PV) : idxF (.seq false [x, y, w]) (.int 1) = some y := rfl
@[simp] theorem p2 (x y w : PV) : idxF (.seq false [x, y, w]) (.int 2) = some w := rfl
@[simp] theorem plen (xs : List PV) : bltF .len [.seq false xs] = some (.int xs.length) := rfl
theorem pslot (h : fr[0]? = some (some (.val (.ref 0)))) : lstSlot fr (pen cs a z) 0 = true := by
  unfold lstSlot
  rw [h]
  rfl
theorem pw2 (h : fr[0]? = some (some (.val (.ref 0)))) (v : Int) : wrF fr (pen cs a z) 0 (stoF (.int 2) (.int v)) = .nx fr (pen cs a v) := by
  unfold wrF
  rw [h]
  rfl
theorem pw1 (h : fr[0]? = some (some (.val (.ref 0)))) (v : Int) : wrF fr (pen cs a z) 0 (stoF (.int 1) (.int v)) = .nx fr (pen cs v z) := by
  unfold wrF
  rw [h]
  rfl
end
def takeTail : S := .seq (.set 2 (.bin .mod (.sub (.var 0) (.cst (.int 2))) (.var 1)))
 (.seq (.sto 0 (.cst (.int 2)) (.bin .fdiv (.sub (.var 0) (.cst (.int 2))) (.var 1)))
 (.seq (.ret (.var 2))
 .nop))
theorem take_tail (n : Nat) (cs : List Int) (a z many : Int) (x y w : Option FV) (h1 : 1 ≤ many) (h2 : many < 1073741824) :
    exS (SG n) takeTail [some (.val (.ref 0)), some (.val (.int many)), x, y, w] (pen cs a z) = .rt (.int (z.fmod many)) (pen cs a (z.fdiv many)) := by
  have d1 := bmod z many (by omega)
  have d2 : binF .fdiv (.int z) (.int many) = some (.int (z.fdiv many)) := if_pos ⟨by omega, by omega⟩
  unfold takeTail
  rw [seq_set (st' := pen cs a z) (p := .int (z.fmod many)) (by simp [d1]) rfl (by simp)]
  simp [d2, pslot, pw2]
def takeHead : S := .seq (.set 3 (.sub (.var 0) (.cst (.int 1))))
  (.seq (.set 4 (.cst (.int 0)))
  (.seq (.ite (.cmp .lt (.var 3) (.blt .len (.cons (.sub (.var 0) (.cst (.int 0))) .nil)))
   (.seq (.set 4 (.sub (.sub (.var 0) (.cst (.int 0))) (.var 3)))
   .nop)
   (.seq (.ite (.cmp .gt (.blt .len (.cons (.sub (.var 0) (.cst (.int 0))) .nil)) (.cst (.int 0)))
    (.seq (.set 4 (.bin .mod (.sub (.sub (.var 0) (.cst (.int 0))) (.bin .mod (.bin .add (.bin .mul (.var 3) (.cst (.int 5))) (.cst (.int 3))) (.blt .len (.cons (.sub (.var 0) (.cst (.int 0))) .nil)))) (.bin .add (.bin .pow (.cst (.int 10)) (.cst (.int 17))) (.var 3))))
    .nop)
    .nop)
   .nop))
  (.seq (.sto 0 (.cst (.int 1)) (.bin .add (.var 3) (.cst (.int 1))))
  (.seq (.sto 0 (.cst (.int 2)) (.call 5 (.cons (.var 4) (.cons (.var 3) .nil)) .nil))
  .nop))))
theorem take_head (n : Nat) (cs : List Int) (a z many : Int) (h0 : 0 ≤ a) (h1 : a < 99990) :
    ∃ (y w : Option FV) (v : Int), exS (SG (n + 1)) takeHead [some (.val (.ref 0)), some (.val (.int many)), none, none, none] (pen cs a z) = .nx [some (.val (.ref 0)), some (.val (.int many)), none, y, w] (pen cs (a + 1) v) := by
  have ad : ∀ i j : Int, binF .add (.int i) (.int j) = some (.int (i + j)) := fun _ _ => rfl
  -- the cell
  have cell : ∃ c : Int, exS (SG (n + 1)) (.ite (.cmp .lt (.var 3) (.blt .len (.cons (.sub (.var 0) (.cst (.int 0))) .nil)))
   (.seq (.set 4 (.sub (.sub (.var 0) (.cst (.int 0))) (.var 3)))
   .nop)
   (.seq (.ite (.cmp .gt (.blt .len (.cons (.sub (.var 0) (.cst (.int 0))) .nil)) (.cst (.int 0)))
    (.seq (.set 4 (.bin .mod (.sub (.sub (.var 0) (.cst (.int 0))) (.bin .mod (.bin .add (.bin .mul (.var 3) (.cst (.int 5))) (.cst (.int 3))) (.blt .len (.cons (.sub (.var 0) (.cst (.int 0))) .nil)))) (.bin .add (.bin .pow (.cst (.int 10)) (.cst (.int 17))) (.var 3))))
    .nop)
    .nop)
   .nop)) [some (.val (.ref 0)), some (.val (.int many)), none, some (.val (.int a)), some (.val (.int 0))] (pen cs a z) = .nx [some (.val (.ref 0)), some (.val (.int many)), none, some (.val (.int a)), some (.val (.int c))] (pen cs a z) := by
    by_cases hl : a < cs.length
    · obtain ⟨c, hc⟩ := at_in cs a h0 hl
      exact ⟨c, by simp [evT, cmpF, truF, hl, hc, setF, Res.ofF]⟩
    · by_cases hp : 0 < cs.length
      · have hp' : (0 : Int) < cs.length := by omega
        have m5 := bmul a 5 (.inr rfl)
        have md := bmod (a * 5 + 3) cs.length (by omega)
        have rg := fm_rng (a * 5 + 3) cs.length hp'
        obtain ⟨c, hc⟩ := at_in cs _ rg.1 rg.2
        have p17 : binF .pow (.int 10) (.int 17) = some (.int 100000000000000000) := rfl
        have m6 := bmod c (100000000000000000 + a) (by omega)
        refine ⟨c.fmod (100000000000000000 + a), ?_⟩
        simp [evT, cmpF, truF, hl, hp, m5, ad, md, hc, p17, m6, setF, Res.ofF]
      · exact ⟨0, by simp [evT, cmpF, truF, hl, hp]⟩
  obtain ⟨c, hc⟩ := cell
  obtain ⟨v, hv⟩ := spread_ok n c a (pen cs (a + 1) z) h0 (by omega)
  refine ⟨some (.val (.int a)), some (.val (.int c)), v, ?_⟩
  unfold takeHead
  rw [seq_set (st' := pen cs a z) (p := .int a) (by simp) rfl (by simp), seq_set (st' := pen cs a z) (p := .int 0) (by simp) rfl (by simp)]
  have := hc
  rw [s35]
  show Res.then (exS (SG (n + 1)) _ [some (.val (.ref 0)), some (.val (.int many)), none, some (.val (.int a)), some (.val (.int 0))] (pen cs a z)) _ = _
  rw [hc]
  simp [ad, pslot, pw1, pw2, hv]
theorem take_ok (n : Nat) (cs : List Int) (a z many : Int) (h0 : 0 ≤ a) (h1 : a < 99990) (h2 : 1 ≤ many) (h3 : many < 1073741824) :
    ∃ (r a' v : Int), (SG (n + 2)).call 8 [.ref 0, .int many] (pen cs a z) = .ok (.int r) (pen cs a' v) ∧ 0 ≤ r ∧ r < many ∧ a ≤ a' ∧ a' ≤ a + 1 := by
  rw [call_at (F := F8) rfl]
  have body : F8.body = .seq (.ite (.cmp .lt (.sub (.var 0) (.cst (.int 2))) (.var 1)) takeHead .nop) takeTail := rfl
  have st0 : startF F8.N [.ref 0, .int many] = [some (.val (.ref 0)), some (.val (.int many)), none, none, none] := rfl
  by_cases hz : z < many
  · obtain ⟨y, w, v, hh⟩ := take_head n cs a z many h0 h1
    have rg := fm_rng v many (by omega)
    refine ⟨v.fmod many, a + 1, v.fdiv many, ?_, rg.1, rg.2, by omega, by omega⟩
    have : exS (SG (n + 1)) F8.body (startF F8.N [.ref 0, .int many]) (pen cs a z) = .rt (.int (v.fmod many)) (pen cs (a + 1) (v.fdiv many)) := by
      rw [body, st0, seq_itT (st' := pen cs a z) (by simp [evT, cmpF, truF, hz]), hh]
      exact take_tail (n + 1) cs (a + 1) v many none y w h2 h3
    show outR (exS (SG (n + 1)) F8.body (startF F8.N [.ref 0, .int many]) (pen cs a z)) = _
    rw [this]
    rfl
  · have rg := fm_rng z many (by omega)
    refine ⟨z.fmod many, a, z.fdiv many, ?_, rg.1, rg.2, by omega, by omega⟩
    have : exS (SG (n + 1)) F8.body (startF F8.N [.ref 0, .int many]) (pen cs a z) = .rt (.int (z.fmod many)) (pen cs a (z.fdiv many)) := by
      rw [body, st0, seq_itF (st' := pen cs a z) (by simp [evT, cmpF, truF, hz])]
      exact take_tail (n + 1) cs a z many none none none h2 h3
    show outR (exS (SG (n + 1)) F8.body (startF F8.N [.ref 0, .int many]) (pen cs a z)) = _
    rw [this]
    rfl
end K01
set_option Elab.async false
set_option linter.all false
set_option maxRecDepth 100000
set_option maxHeartbeats 4000000
namespace K01
open PySem PySem.Spec Rm
theorem anew_ok (n : Nat) (cs : List Int) (a z : Int) : (SG (n + 1)).call 7 [.ref 0] (pen cs a z) = .ok (.ref 0) (pen cs a 0) := by
  rw [call_at (F := F7) rfl]
  simp [runFn, F7, startF, pslot, pw2, outR]
theorem one_ok (n : Nat) (cs : List Int) (a z : Int) (xs : List PV) (h0 : 0 ≤ a) (h1 : a < 99990) (h2 : xs ≠ []) (h3 : xs.length < 1000000) (hk : keepAll xs = true) :
    ∃ (p : PV) (a' v : Int), (SG (n + 3)).call 9 [.ref 0, .seq false xs] (pen cs a z) = .ok p (pen cs a' v) ∧ p ∈ xs ∧ a ≤ a' ∧ a' ≤ a + 1 := by
  have hl : 0 < xs.length := List.length_pos_iff.mpr h2
  obtain ⟨r, a', v, e, r0, r1, b0, b1⟩ := take_ok n cs a z xs.length h0 h1 (by omega) (by omega)
  have hj : r.toNat < xs.length := by omega
  have hx : idxF (.seq false xs) (.int r) = some xs[r.toNat] := at_get false (j := r.toNat) (by omega) (by simp [hj])
  have hm : xs[r.toNat] ∈ xs := List.getElem_mem hj
  have hkp : keep xs[r.toNat] = true := List.all_eq_true.mp hk _ hm
  refine ⟨xs[r.toNat], a', v, ?_, hm, b0, b1⟩
  rw [call_at (F := F9) rfl]
  simp [runFn, F9, startF, e, hx, hkp, outR]
/-- a for whose turns go on -/
theorem for_inv {t : T} {body : Frm → Sto → Res} (P : Nat → Frm → Sto → Prop) : ∀ (xs : List PV) (k : Nat) (fr : Frm) (st : Sto), (∀ x ∈ xs, ∀ i fr st, i < k + xs.length → P i fr st → ∃ fr1 fr2 st2, asg t x fr = some fr1 ∧ body fr1 st = .nx fr2 st2 ∧ P (i + 1) fr2 st2) →
    P k fr st → ∃ fr' st', forRun t body xs fr st = .nx fr' st' ∧ P (k + xs.length) fr' st'
  | [], k, fr, st, _, h => ⟨fr, st, rfl, h⟩
  | x :: xs, k, fr, st, hs, h => by
    obtain ⟨fr1, fr2, st2, h1, h2, h3⟩ := hs x (by simp) k fr st (by simp) h
    obtain ⟨fr', st', h4, h5⟩ := for_inv P xs (k + 1) fr2 st2 (fun y hy i fr st hi => hs y (List.mem_cons_of_mem _ hy) i fr st (by simp; omega)) h3
    refine ⟨fr', st', ?_, by rw [List.length_cons, show k + (xs.length + 1) = k + 1 + xs.length by omega]; exact h5⟩
    unfold forRun
    rw [h1]
    simp only [h2]
    exact h4
/-- the cells grow by the later numbers -/
theorem open_loop (n : Nat) (sc : List Int) : ∀ (xs : List Int) (k : Nat) (cs : List Int) (x y : Option FV) (st : Sto), (xs ≠ [] → cs.length = 12) →
    ∃ (ds : List Int) (x' y' : Option FV), forRun (.tp (.cons (.nm 2) (.cons (.nm 3) .nil))) (exS (SG n) (.seq (.sto 1 (.bin .mod (.var 2) (.cst (.int 12))) (.bin .add (.sub (.var 1) (.bin .mod (.var 2) (.cst (.int 12)))) (.var 3))) .nop)) (enumF k (xs.map .int))
      [some (.val (.scr (sc.map .int))), some (.own (cs.map .int)), x, y] st = .nx [some (.val (.scr (sc.map .int))), some (.own (ds.map .int)), x', y'] st ∧ ds.length = cs.length
  | [], k, cs, x, y, st, _ => ⟨cs, x, y, rfl, rfl⟩
  | c :: xs, k, cs, x, y, st, h => by
    have hl : cs.length = 12 := h (by simp)
    have kk : ((k : Int)).fmod 12 = ((k % 12 : Nat) : Int) := by
      rw [Int.fmod_eq_emod_of_nonneg _ (by decide)]
      omega
    have hj : k % 12 < cs.length := by
      rw [hl]
      exact Nat.mod_lt _ (by decide)
    have md := bmod (k : Int) 12 (by decide)
    rw [kk] at md
    generalize hK : ((k : Nat) : Int) = K at md
    have hget : idxF (.seq false (cs.map .int)) (.int ((k % 12 : Nat) : Int)) = some (.int cs[k % 12]) := at_get false rfl (by simp [hj])
    generalize hJ : k % 12 = j at hj md hget
    have ad : ∀ i j : Int, binF .add (.int i) (.int j) = some (.int (i + j)) := fun _ _ => rfl
    have hst : stoF (.int (j : Int)) (.int (cs[j] + c)) (cs.map .int) = some ((cs.set j (cs[j] + c)).map .int) := by
      show (L2.ixN (cs.map PV.int).length (j : Int)).map (fun q => (cs.map PV.int).set q (.int (cs[j] + c))) = _
      unfold L2.ixN
      rw [if_pos (by omega), if_pos (by rw [List.length_map]; omega)]
      simp [List.map_set]
    obtain ⟨ds, x', y', ih, ihl⟩ := open_loop n sc xs (k + 1) (cs.set j (cs[j] + c)) (some (.val (.int K))) (some (.val (.int c))) st (fun _ => by rw [List.length_set]; exact hl)
    refine ⟨ds, x', y', ?_, by rw [ihl, List.length_set]⟩
    rw [List.map_cons]
    unfold enumF forRun
    rw [hK]
    have a1 : asg (.tp (.cons (.nm 2) (.cons (.nm 3) .nil))) (.seq true [.int K, .int c]) [some (.val (.scr (sc.map .int))), some (.own (cs.map .int)), x, y] = some [some (.val (.scr (sc.map .int))), some (.own (cs.map .int)), some (.val (.int K)), some (.val (.int c))] := by
      simp [asg, asgL]
    rw [a1]
    have b1 : exS (SG n) (.seq (.sto 1 (.bin .mod (.var 2) (.cst (.int 12))) (.bin .add (.sub (.var 1) (.bin .mod (.var 2) (.cst (.int 12)))) (.var 3))) .nop) [some (.val (.scr (sc.map .int))), some (.own (cs.map .int)), some (.val (.int K)), some (.val (.int c))] st =
        .nx [some (.val (.scr (sc.map .int))), some (.own ((cs.set j (cs[j] + c)).map .int)), some (.val (.int K)), some (.val (.int c))] st := by
      have dl : ∀ fr : Frm, fr[1]? = some (some (.own (cs.map .int))) → deref fr st (.loc 1) = .seq false (cs.map .int) := fun fr h => by
        simp only [deref, h]
      simp [lstSlot, md, dl, hget, ad, wrF, hst]
    simp only [b1]
    exact ih
theorem open_ok (n : Nat) (ns : List Int) : ∃ cs : List Int, (SG (n + 1)).call 6 [.scr (ns.map .int)] [] = .ok (.ref 0) (pen cs 0 0) := by
  obtain ⟨ds, x', y', hl, _⟩ := open_loop n ns ((ns.drop 12).take 51) 0 (ns.take 12) none none [] (fun h => by
    have : 12 ≤ ns.length := by
      apply Classical.byContradiction
      intro z
      apply h
      rw [List.drop_eq_nil_of_le (by omega)]
      rfl
    rw [List.length_take]
    omega)
  refine ⟨ds, ?_⟩
  rw [call_at (F := F6) rfl]
  have c1 : cutF none (some 12) (.scr (ns.map .int)) = some (.seq false ((ns.take 12).map .int)) := by
    show some (PV.seq false (((ns.map PV.int).drop (HT.sIx (ns.map PV.int).length 0 none)).take (HT.sIx (ns.map PV.int).length (ns.map PV.int).length (some 12) - HT.sIx (ns.map PV.int).length 0 none))) = _
    rw [HT.sIx_none, show HT.sIx (ns.map PV.int).length (ns.map PV.int).length (some 12) = min 12 (ns.map PV.int).length from HT.sIx_nat _ _ 12]
    rw [List.drop_zero, Nat.sub_zero, List.length_map]
    congr 2
    rw [← List.map_take]
    congr 1
    by_cases h : ns.length ≤ 12
    · rw [Nat.min_eq_right h, List.take_length, List.take_of_length_le h]
    · rw [Nat.min_eq_left (by omega)]
  have c2 : cutF (some 12) (some 63) (.scr (ns.map .int)) = some (.seq false (((ns.drop 12).take 51).map .int)) := by
    show some (PV.seq false (((ns.map PV.int).drop (HT.sIx (ns.map PV.int).length 0 (some 12))).take (HT.sIx (ns.map PV.int).length (ns.map PV.int).length (some 63) - HT.sIx (ns.map PV.int).length 0 (some 12)))) = _
    rw [show HT.sIx (ns.map PV.int).length (ns.map PV.int).length (some 63) = min 63 (ns.map PV.int).length from HT.sIx_nat _ _ 63, show HT.sIx (ns.map PV.int).length 0 (some 12) = min 12 (ns.map PV.int).length from HT.sIx_nat _ _ 12]
    rw [List.length_map]
    congr 2
    rw [← List.map_drop, ← List.map_take]
    congr 1
    by_cases h : ns.length ≤ 12
    · rw [Nat.min_eq_right h, List.drop_eq_nil_of_le h, List.drop_length]
      simp
    · rw [Nat.min_eq_left (by omega : 12 ≤ ns.length)]
      by_cases h2 : ns.length ≤ 63
      · rw [Nat.min_eq_right h2, List.take_of_length_le (by rw [List.length_drop]; omega), List.take_of_length_le (by rw [List.length_drop]; omega)]
      · rw [Nat.min_eq_left (by omega)]
  have l1 : ∀ xs : List PV, bltF .list [.seq false xs] = some (.seq false xs) := fun _ => rfl
  have o1 : ∀ (i : Int) (fr : Frm) (st : Sto), evO (SG n) (.cst (.int i)) fr st = .ok (some i) st := fun i fr st => rfl
  simp [runFn, F6, startF, c1, c2, l1, o1, ownF, Res.ofF, lstF]
  rw [← List.map_take, ← List.map_drop, ← List.map_take, hl]
  simp [frzF, outR]
  rfl
end K01
set_option Elab.async false
set_option linter.all false
set_option maxRecDepth 100000
set_option maxHeartbeats 4000000
namespace K01
open PySem PySem.Spec Rm
def lb1 : S := (.seq (.ite (.cmp .ne (.blt .repr (.cons (.call 1 (.cons (.var 2) .nil) .nil) .nil)) (.blt .repr (.cons (.call 10 (.cons (.var 2) .nil) .nil) .nil)))
   (.seq (.ret (.cst (.bl false)))
   .nop)
   .nop)
  .nop)
def lb2 : S := (.seq (.ite (.cmp .isnot (.call 1 (.cons (.var 4) .nil) .nil) (.cst (.bl false)))
   (.seq (.ret (.cst (.bl false)))
   .nop)
   .nop)
  .nop)
def lb3 : S := (.seq (.set 7 (.call 9 (.cons (.call 7 (.cons (.var 1) .nil) .nil) (.cons (.var 5) .nil)) .nil))
  (.seq (.set 2 (.bin .add (.cst (.int 1)) (.call 8 (.cons (.var 1) (.cons (.bin .sub (.var 7) (.cst (.int 1))) .nil)) .nil)))
  (.seq (.set 8 (.call 11 (.cons (.var 2) (.cons (.var 7) .nil)) .nil))
  (.seq (.ite (.or (.cons (.isi (.var 8) [.bool]) (.cons (.not (.isi (.var 8) [.int])) (.cons (.not (.chn .lt .lt (.cst (.int 0)) (.var 8) (.var 7))) (.cons (.cmp .ne (.bin .mod (.bin .mul (.var 8) (.var 2)) (.var 7)) (.cst (.int 1))) .nil)))))
   (.seq (.ret (.cst (.bl false)))
   .nop)
   .nop)
  (.seq (.set 4 (.call 9 (.cons (.var 1) (.cons (.lst (.cons (.cst (.int 0)) (.cons (.var 7) (.cons (.bin .sub (.cst (.int 0)) (.var 2)) (.cons (.cst (.bl true)) (.cons (.cst .non) (.cons (.cst (.str "1")) (.cons (.tup (.cons (.cst (.int 1)) .nil)) (.cons (.bin .add (.var 7) (.var 2)) (.cons (.bin .pow (.cst (.int 10)) (.cst (.int 40))) (.cons (.lst (.cons (.cst (.int 1)) .nil)) (.cons (.cst (.bl false)) .nil)))))))))))) .nil)) .nil))
  (.seq (.ite (.cmp .ne (.call 11 (.cons (.var 4) (.cons (.var 7) .nil)) .nil) (.cst (.str "number")))
   (.seq (.ret (.cst (.bl false)))
   .nop)
   .nop)
  (.seq (.set 9 (.call 9 (.cons (.var 1) (.cons (.lst (.cons (.cst (.int 0)) (.cons (.cst (.int 1)) (.cons (.cst (.int 4)) (.cons (.cst (.int 9)) (.cons (.cst (.int 91)) (.cons (.bin .mul (.cst (.int 97)) (.var 7)) (.cons (.cst (.int 101)) (.cons (.cst .non) (.cons (.cst (.bl true)) (.cons (.cst (.str "3")) (.cons (.tup (.cons (.cst (.int 3)) .nil)) (.cons (.bin .sub (.cst (.int 0)) (.cst (.int 7))) (.cons (.cst (.int 95)) .nil)))))))))))))) .nil)) .nil))
  (.seq (.ite (.or (.cons (.cmp .ne (.call 11 (.cons (.var 2) (.cons (.var 9) .nil)) .nil) (.cst (.str "prime"))) (.cons (.cmp .ne (.call 11 (.cons (.var 4) (.cons (.var 9) .nil)) .nil) (.cst (.str "prime"))) .nil)))
   (.seq (.ret (.cst (.bl false)))
   .nop)
   .nop)
  .nop))))))))
theorem law_body : F12.body = (.seq (.set 1 (.call 6 (.cons (.var 0) .nil) .nil))
 (.seq (.for (.nm 2) (.itR (.cons (.bin .sub (.cst (.int 0)) (.cst (.int 5))) (.cons (.cst (.int 121)) .nil)))
  lb1)
 (.seq (.set 3 (.lst (.cons (.cst .non) (.cons (.cst (.bl true)) (.cons (.cst (.bl false)) (.cons (.cst (.str "2")) (.cons (.tup (.cons (.cst (.int 2)) .nil)) (.cons (.lst (.cons (.cst (.int 2)) .nil)) (.cons (.bin .add (.bin .pow (.cst (.int 10)) (.cst (.int 30))) (.cst (.int 57))) (.cons (.bin .sub (.cst (.int 0)) (.cst (.int 2))) (.cons (.bin .add (.cst (.int 98)) (.call 8 (.cons (.var 1) (.cons (.bin .pow (.cst (.int 10)) (.cst (.int 6))) .nil)) .nil)) (.cons (.tup .nil) .nil))))))))))))
 (.seq (.for (.nm 4) (.itS (.var 3))
  lb2)
 (.seq (.set 5 (.comp [10] (.var 10) (.nm 10) (.itR (.cons (.cst (.int 98)) .nil)) (.call 10 (.cons (.var 10) .nil) .nil)))
 (.seq (.for (.nm 6) (.itR (.cons (.cst (.int 12)) .nil))
  lb3)
 (.seq (.ret (.cst (.bl true)))
 .nop))))))) := rfl
def ferm : Bool := (List.range 98).all fun p => !isP p || (List.range p).all fun x => x == 0 || (decide ((powm x p (p - 2) 1 * x).fmod p = 1) && decide (0 < powm x p (p - 2) 1) && decide (powm x p (p - 2) 1 < p))
theorem ferm_ok : ferm = true := by decide +kernel
theorem ferm_at {p x : Int} (hp : isP p = true) (hx : 1 ≤ x ∧ x < p) : (powm x p (p - 2).toNat 1 * x).fmod p = 1 ∧ 0 < powm x p (p - 2).toNat 1 ∧ powm x p (p - 2).toNat 1 < p := by
  have h2 : 2 ≤ p ∧ p ≤ 97 := by
    unfold isP at hp
    simp only [Bool.and_eq_true, decide_eq_true_eq] at hp
    exact hp.1
  obtain ⟨p, rfl⟩ : ∃ q : Nat, p = (q : Int) := ⟨p.toNat, by omega⟩
  obtain ⟨x, rfl⟩ : ∃ q : Nat, x = (q : Int) := ⟨x.toNat, by omega⟩
  have f := List.all_eq_true.mp ferm_ok p (by rw [List.mem_range]; omega)
  rw [hp] at f
  have g := List.all_eq_true.mp (by simpa using f : ((List.range p).all fun x => x == 0 || (decide ((powm x p (p - 2) 1 * x).fmod p = 1) && decide (0 < powm x p (p - 2) 1) && decide (powm x p (p - 2) 1 < p))) = true) x (by rw [List.mem_range]; omega)
  have x0 : (x == 0) = false := by
    rw [beq_eq_false_iff_ne]
    omega
  rw [x0, Bool.false_or] at g
  simp only [Bool.and_eq_true, decide_eq_true_eq] at g
  have e : ((p : Int) - 2).toNat = p - 2 := by omega
  rw [e]
  exact ⟨g.1.1, g.1.2, g.2⟩
def prL : List Int := [2, 3, 5, 7, 11, 13, 17, 19, 23, 29, 31, 37, 41, 43, 47, 53, 59, 61, 67, 71, 73, 79, 83, 89, 97]
theorem prl : (rangeF 0 98).filter (fun x => match x with | .int i => isP i | _ => false) = prL.map PV.int := by rfl
theorem prL_ok : ∀ q ∈ prL, isP q = true ∧ 2 ≤ q ∧ q ≤ 97 := by decide +kernel
theorem rp (b : Bool) : ∃ s, bltF .repr [.bl b] = some (.str s) ∧ eqF (.str s) (.str s) = some true := by
  cases b
  · exact ⟨"False", by kernel_rfl, by decide +kernel⟩
  · exact ⟨"True", by kernel_rfl, by decide +kernel⟩
theorem loop1 (m : Nat) (S R : Option FV) (r3 r4 r5 r6 r7 r8 r9 r10 : Option FV) (st : Sto) : ∀ (xs : List PV) (x2 : Option FV), (∀ x ∈ xs, ∃ i : Int, x = .int i ∧ i < 1000) →
    ∃ x2', forRun (.nm 2) (exS (SG (m + 5)) lb1) xs [S, R, x2, r3, r4, r5, r6, r7, r8, r9, r10] st = .nx [S, R, x2', r3, r4, r5, r6, r7, r8, r9, r10] st
  | [], x2, _ => ⟨x2, rfl⟩
  | x :: xs, x2, h => by
    obtain ⟨i, rfl, hi⟩ := h _ (List.mem_cons_self)
    obtain ⟨x2', ih⟩ := loop1 m S R r3 r4 r5 r6 r7 r8 r9 r10 st xs (some (.val (.int i))) fun y hy => h y (List.mem_cons_of_mem _ hy)
    have e1 : (SG (m + 5)).call 1 [.int i] st = .ok (.bl (isP i)) st := prime_int (m + 3) i st
    have e2 : (SG (m + 5)).call 10 [.int i] st = .ok (.bl (isP i)) st := lawp_int (m + 4) i st hi
    obtain ⟨s, q1, q2⟩ := rp (isP i)
    refine ⟨x2', ?_⟩
    unfold forRun
    have a1 : asg (.nm 2) (.int i) [S, R, x2, r3, r4, r5, r6, r7, r8, r9, r10] = some [S, R, some (.val (.int i)), r3, r4, r5, r6, r7, r8, r9, r10] := by simp [asg]
    have b1 : exS (SG (m + 5)) lb1 [S, R, some (.val (.int i)), r3, r4, r5, r6, r7, r8, r9, r10] st = .nx [S, R, some (.val (.int i)), r3, r4, r5, r6, r7, r8, r9, r10] st := by
      simp [lb1, evT, e1, e2, q1, q2, cmpF, truF]
    rw [a1]
    simp only [b1]
    exact ih
theorem loop2 (m : Nat) (S R r2 r3 r5 r6 r7 r8 r9 r10 : Option FV) (st : Sto) : ∀ (xs : List PV) (x4 : Option FV), (∀ x ∈ xs, keep x = true ∧ (SG (m + 5)).call 1 [x] st = .ok (.bl false) st) →
    ∃ x4', forRun (.nm 4) (exS (SG (m + 5)) lb2) xs [S, R, r2, r3, x4, r5, r6, r7, r8, r9, r10] st = .nx [S, R, r2, r3, x4', r5, r6, r7, r8, r9, r10] st
  | [], x4, _ => ⟨x4, rfl⟩
  | x :: xs, x4, h => by
    obtain ⟨hk, e1⟩ := h x (List.mem_cons_self)
    obtain ⟨x4', ih⟩ := loop2 m S R r2 r3 r5 r6 r7 r8 r9 r10 st xs (some (.val x)) fun y hy => h y (List.mem_cons_of_mem _ hy)
    refine ⟨x4', ?_⟩
    unfold forRun
    have a1 : asg (.nm 4) x [S, R, r2, r3, x4, r5, r6, r7, r8, r9, r10] = some [S, R, r2, r3, some (.val x), r5, r6, r7, r8, r9, r10] := by simp [asg]
    have b1 : exS (SG (m + 5)) lb2 [S, R, r2, r3, some (.val x), r5, r6, r7, r8, r9, r10] st = .nx [S, R, r2, r3, some (.val x), r5, r6, r7, r8, r9, r10] st := by
      simp [lb2, evT, e1, hk, cmpF, isF, truF]
    rw [a1]
    simp only [b1]
    exact ih
end K01
set_option Elab.async false
set_option linter.all false
set_option maxRecDepth 100000
set_option maxHeartbeats 4000000
namespace K01
open PySem PySem.Spec Rm
/-- things that are no number with a contrary -/
def thingsL (p x : Int) : List PV := [.int 0, .int p, .int (0 - x), .bl true, .non, .str "1", .seq true [.int 1], .int (p + x), .int 10000000000000000000000000000000000000000, .seq false [.int 1], .bl false]
/-- what is no prime -/
def badL (p : Int) : List PV := [.int 0, .int 1, .int 4, .int 9, .int 91, .int (97 * p), .int 101, .non, .bl true, .str "3", .seq true [.int 3], .int (0 - 7), .int 95]
theorem things_ok (n : Nat) {p x : Int} (hp : isP p = true) (h2 : 2 ≤ p ∧ p ≤ 97) (hx : 1 ≤ x ∧ x < p) (st : Sto) : ∀ t ∈ thingsL p x, keep t = true ∧ (SG (n + 4)).call 4 [t, .int p] st = .exc 2 .non st := by
  intro t ht
  simp only [thingsL, List.mem_cons, List.not_mem_nil, or_false] at ht
  rcases ht with rfl | rfl | rfl | rfl | rfl | rfl | rfl | rfl | rfl | rfl | rfl
  · exact ⟨rfl, contr_nn n _ p st rfl hp (.inr ⟨_, rfl, by omega⟩)⟩
  · exact ⟨rfl, contr_nn n _ _ st rfl hp (.inr ⟨_, rfl, by omega⟩)⟩
  · exact ⟨rfl, contr_nn n _ p st rfl hp (.inr ⟨_, rfl, by omega⟩)⟩
  · exact ⟨rfl, contr_nn n _ p st rfl hp (.inl (whole_bl _ _ _))⟩
  · exact ⟨rfl, contr_nn n _ p st rfl hp (.inl (whole_non _ _))⟩
  · exact ⟨rfl, contr_nn n _ p st rfl hp (.inl (whole_str _ _ _))⟩
  · exact ⟨rfl, contr_nn n _ p st rfl hp (.inl (whole_seq _ _ _ _))⟩
  · exact ⟨rfl, contr_nn n _ p st rfl hp (.inr ⟨_, rfl, by omega⟩)⟩
  · exact ⟨rfl, contr_nn n _ p st rfl hp (.inr ⟨_, rfl, by omega⟩)⟩
  · exact ⟨rfl, contr_nn n _ p st rfl hp (.inl (whole_seq _ _ _ _))⟩
  · exact ⟨rfl, contr_nn n _ p st rfl hp (.inl (whole_bl _ _ _))⟩
theorem bad_ok (n : Nat) {p : Int} (h2 : 2 ≤ p ∧ p ≤ 97) (st : Sto) : ∀ t ∈ badL p, keep t = true ∧ (SG (n + 2)).call 1 [t] st = .ok (.bl false) st := by
  intro t ht
  simp only [badL, List.mem_cons, List.not_mem_nil, or_false] at ht
  rcases ht with rfl | rfl | rfl | rfl | rfl | rfl | rfl | rfl | rfl | rfl | rfl | rfl | rfl
  · exact ⟨rfl, prime_no n _ st (by omega)⟩
  · exact ⟨rfl, prime_no n _ st (by omega)⟩
  · exact ⟨rfl, by rw [prime_int]; rfl⟩
  · exact ⟨rfl, by rw [prime_int]; rfl⟩
  · exact ⟨rfl, by rw [prime_int]; rfl⟩
  · exact ⟨rfl, prime_no n _ st (by omega)⟩
  · exact ⟨rfl, prime_no n _ st (by omega)⟩
  · exact ⟨rfl, prime_non n _ st rfl (whole_non _ _)⟩
  · exact ⟨rfl, prime_non n _ st rfl (whole_bl _ _ _)⟩
  · exact ⟨rfl, prime_non n _ st rfl (whole_str _ _ _)⟩
  · exact ⟨rfl, prime_non n _ st rfl (whole_seq _ _ _ _)⟩
  · exact ⟨rfl, prime_no n _ st (by omega)⟩
  · exact ⟨rfl, by rw [prime_int]; rfl⟩
theorem eqS_num : eqF (.str "number") (.str "number") = some true := by decide +kernel
theorem eqS_pr : eqF (.str "prime") (.str "prime") = some true := by decide +kernel
theorem keepAll_ints : ∀ l : List Int, keepAll (l.map PV.int) = true
  | [] => rfl
  | x :: l => by simp [keepAll_ints l]
theorem turn3 (m : Nat) (S : Option FV) (cs : List Int) (a z : Int) (x2 r3 x4 x6 x7 x8 x9 r10 : Option FV) (h0 : 0 ≤ a) (h1 : a < 90000) :
    ∃ (y2 y4 y7 y8 y9 : Option FV) (a' z' : Int), exS (SG (m + 5)) lb3 [S, some (.val (.ref 0)), x2, r3, x4, some (.val (.seq false (prL.map .int))), x6, x7, x8, x9, r10] (pen cs a z) =
      .nx [S, some (.val (.ref 0)), y2, r3, y4, some (.val (.seq false (prL.map .int))), x6, y7, y8, y9, r10] (pen cs a' z') ∧ a ≤ a' ∧ a' ≤ a + 4 := by
  have sb : ∀ i j : Int, binF .sub (.int i) (.int j) = some (.int (i - j)) := fun _ _ => rfl
  have ad : ∀ i j : Int, binF .add (.int i) (.int j) = some (.int (i + j)) := fun _ _ => rfl
  -- the prime
  have e1 : (SG (m + 5)).call 7 [.ref 0] (pen cs a z) = .ok (.ref 0) (pen cs a 0) := anew_ok (m + 4) cs a z
  obtain ⟨p0, a1, z1, e2, m2, b1, b2⟩ := one_ok (m + 2) cs a 0 (prL.map .int) h0 (by omega) (by decide) (by decide) (keepAll_ints _)
  have e2' : (SG (m + 5)).call 9 [.ref 0, .seq false (prL.map .int)] (pen cs a 0) = .ok p0 (pen cs a1 z1) := e2
  obtain ⟨p, hp0, rfl⟩ := List.mem_map.mp m2
  obtain ⟨hp, hp2⟩ := prL_ok p hp0
  -- the number
  obtain ⟨r, a2, z2, e3, r0, r1, b3, b4⟩ := take_ok (m + 3) cs a1 z1 (p - 1) (by omega) (by omega) (by omega) (by omega)
  have e3' : (SG (m + 5)).call 8 [.ref 0, .int (p - 1)] (pen cs a1 z1) = .ok (.int r) (pen cs a2 z2) := e3
  have hx : 1 ≤ 1 + r ∧ 1 + r < p := by omega
  generalize hX : 1 + r = x at hx
  obtain ⟨f1, f2, f3⟩ := ferm_at hp hx
  have e4 : (SG (m + 5)).call 11 [.int x, .int p] (pen cs a2 z2) = .ok (.int (powm x p (p - 2).toNat 1)) (pen cs a2 z2) := word_ok m _ _ _ _ rfl rfl (contr_ok m x p _ hp hx)
  generalize powm x p (p - 2).toNat 1 = f at f1 f2 f3 e4
  have g1 := bmul f x (.inl (sm (by omega) (by omega)))
  have g2 := bmod (f * x) p (by omega)
  rw [f1] at g2
  -- the thing
  obtain ⟨t, a3, z3, e5, m5, b5, b6⟩ := one_ok (m + 2) cs a2 z2 (thingsL p x) (by omega) (by omega) (by simp [thingsL]) (by simp [thingsL]) (by simp [thingsL])
  have e5' : (SG (m + 5)).call 9 [.ref 0, .seq false (thingsL p x)] (pen cs a2 z2) = .ok t (pen cs a3 z3) := e5
  obtain ⟨kt, ct⟩ := things_ok m hp hp2 hx (pen cs a3 z3) t m5
  have e6 : (SG (m + 5)).call 11 [t, .int p] (pen cs a3 z3) = .ok (.str "number") (pen cs a3 z3) := word_ex m t (.int p) 2 (.inr rfl) _ kt rfl ct
  -- no prime
  obtain ⟨q, a4, z4, e7, m7, b7, b8⟩ := one_ok (m + 2) cs a3 z3 (badL p) (by omega) (by omega) (by simp [badL]) (by simp [badL]) (by simp [badL])
  have e7' : (SG (m + 5)).call 9 [.ref 0, .seq false (badL p)] (pen cs a3 z3) = .ok q (pen cs a4 z4) := e7
  obtain ⟨kq, cq⟩ := bad_ok m hp2 (pen cs a4 z4) q m7
  have e8 : (SG (m + 5)).call 11 [.int x, q] (pen cs a4 z4) = .ok (.str "prime") (pen cs a4 z4) := word_ex m (.int x) q 1 (.inl rfl) _ rfl kq (contr_np m _ _ _ rfl kq cq)
  have e9 : (SG (m + 5)).call 11 [t, q] (pen cs a4 z4) = .ok (.str "prime") (pen cs a4 z4) := word_ex m t q 1 (.inl rfl) _ kt kq (contr_np m _ _ _ kt kq cq)
  have p40 : binF .pow (.int 10) (.int 40) = some (.int 10000000000000000000000000000000000000000) := rfl
  have m97 := bmul 97 p (.inl rfl)
  refine ⟨some (.val (.int x)), some (.val t), some (.val (.int p)), some (.val (.int f)), some (.val q), a4, z4, ?_, by omega, by omega⟩
  unfold lb3
  rw [seq_set (st' := pen cs a1 z1) (p := .int p) (by simp [e1, e2']) rfl (by simp)]
  rw [seq_set (st' := pen cs a2 z2) (p := .int x) (by simp [sb, e3', ad, hX]) rfl (by simp)]
  rw [seq_set (st' := pen cs a2 z2) (p := .int f) (by simp [e4]) rfl (by simp)]
  rw [seq_itF (st' := pen cs a2 z2) (by simp [evT, isiAny, isiF, blF, truF, cmpF, f2, f3, g1, g2])]
  rw [seq_set (st' := pen cs a3 z3) (p := t) (by
    have : (SG (m + 5)).call 9 [.ref 0, .seq false [.int 0, .int p, .int (-x), .bl true, .non, .str "1", .seq true [.int 1], .int (p + x), .int 10000000000000000000000000000000000000000, .seq false [.int 1], .bl false]] (pen cs a2 z2) = .ok t (pen cs a3 z3) := by
      rw [← e5', thingsL, Int.zero_sub]
    simp [sb, ad, p40, szl, this]) kt (by simp)]
  rw [seq_itF (st' := pen cs a3 z3) (by simp [evT, e6, kt, cmpF, eqS_num, truF])]
  rw [seq_set (st' := pen cs a4 z4) (p := q) (by
    have : (SG (m + 5)).call 9 [.ref 0, .seq false [.int 0, .int 1, .int 4, .int 9, .int 91, .int (97 * p), .int 101, .non, .bl true, .str "3", .seq true [.int 3], .int (-7), .int 95]] (pen cs a3 z3) = .ok q (pen cs a4 z4) := e7'
    simp [sb, m97, szl, this]) kq (by simp)]
  rw [seq_itF (st' := pen cs a4 z4) (by simp [evT, e8, e9, kt, kq, blF, cmpF, eqS_pr, truF])]
  simp
end K01
set_option Elab.async false
set_option linter.all false
set_option maxRecDepth 100000
set_option maxHeartbeats 4000000
namespace K01
open PySem PySem.Spec Rm
theorem loop3 (m : Nat) (S : Option FV) (cs : List Int) (r3 r10 : Option FV) : ∀ (xs : List PV) (x2 x4 x6 x7 x8 x9 : Option FV) (a z : Int), 0 ≤ a → a + 4 * xs.length < 90000 →
    ∃ (y2 y4 y6 y7 y8 y9 : Option FV) (a' z' : Int), forRun (.nm 6) (exS (SG (m + 5)) lb3) xs [S, some (.val (.ref 0)), x2, r3, x4, some (.val (.seq false (prL.map .int))), x6, x7, x8, x9, r10] (pen cs a z) =
      .nx [S, some (.val (.ref 0)), y2, r3, y4, some (.val (.seq false (prL.map .int))), y6, y7, y8, y9, r10] (pen cs a' z')
  | [], x2, x4, x6, x7, x8, x9, a, z, _, _ => ⟨x2, x4, x6, x7, x8, x9, a, z, rfl⟩
  | x :: xs, x2, x4, x6, x7, x8, x9, a, z, h0, h1 => by
    simp only [List.length_cons] at h1
    obtain ⟨y2, y4, y7, y8, y9, a1, z1, e, b1, b2⟩ := turn3 m S cs a z x2 r3 x4 (some (.val x)) x7 x8 x9 r10 h0 (by omega)
    obtain ⟨w2, w4, w6, w7, w8, w9, a2, z2, ih⟩ := loop3 m S cs r3 r10 xs y2 y4 (some (.val x)) y7 y8 y9 a1 z1 (by omega) (by omega)
    refine ⟨w2, w4, w6, w7, w8, w9, a2, z2, ?_⟩
    unfold forRun
    have a1 : asg (.nm 6) x [S, some (.val (.ref 0)), x2, r3, x4, some (.val (.seq false (prL.map .int))), x6, x7, x8, x9, r10] = some [S, some (.val (.ref 0)), x2, r3, x4, some (.val (.seq false (prL.map .int))), some (.val x), x7, x8, x9, r10] := by simp [asg]
    rw [a1]
    simp only [e]
    exact ih
theorem rangeF_int {lo : Int} {n : Nat} {x : PV} (h : x ∈ rangeF lo n) : ∃ i : Int, x = .int i ∧ lo ≤ i ∧ i < lo + n := by
  unfold rangeF at h
  obtain ⟨k, hk, rfl⟩ := List.mem_map.mp h
  rw [List.mem_range] at hk
  exact ⟨_, rfl, by omega, by omega⟩
def oddL (r : Int) : List PV := [.non, .bl true, .bl false, .str "2", .seq true [.int 2], .seq false [.int 2], .int 1000000000000000000000000000057, .int (0 - 2), .int (98 + r), .seq true []]
theorem odd_ok (n : Nat) (r : Int) (h : 0 ≤ r) (st : Sto) : ∀ t ∈ oddL r, keep t = true ∧ (SG (n + 2)).call 1 [t] st = .ok (.bl false) st := by
  intro t ht
  simp only [oddL, List.mem_cons, List.not_mem_nil, or_false] at ht
  rcases ht with rfl | rfl | rfl | rfl | rfl | rfl | rfl | rfl | rfl | rfl
  · exact ⟨rfl, prime_non n _ st rfl (whole_non _ _)⟩
  · exact ⟨rfl, prime_non n _ st rfl (whole_bl _ _ _)⟩
  · exact ⟨rfl, prime_non n _ st rfl (whole_bl _ _ _)⟩
  · exact ⟨rfl, prime_non n _ st rfl (whole_str _ _ _)⟩
  · exact ⟨rfl, prime_non n _ st rfl (whole_seq _ _ _ _)⟩
  · exact ⟨rfl, prime_non n _ st rfl (whole_seq _ _ _ _)⟩
  · exact ⟨rfl, prime_no n _ st (by omega)⟩
  · exact ⟨rfl, prime_no n _ st (by omega)⟩
  · exact ⟨rfl, prime_no n _ st (by omega)⟩
  · exact ⟨rfl, prime_non n _ st rfl (whole_seq _ _ _ _)⟩
theorem seq_for {G : Sig} {t : T} {it : E} {b d : S} {fr : Frm} {st st' : Sto} {xs : List PV} (h : evI G it fr st = .ok xs st') : exS G (.seq (.for t it b) d) fr st = (forRun t (exS G b) xs fr st').then (exS G d) := by
  simp [h]
def isPv : PV → Bool
  | .int i => isP i
  | _ => false
theorem prl' : (rangeF 0 98).filter isPv = prL.map PV.int := by rfl
theorem law_run (m : Nat) (ns : List Int) : ∃ st, runFn (SG (m + 5)) F12 [.scr (ns.map .int)] [] = .ok (.bl true) st := by
  have sb : ∀ i j : Int, binF .sub (.int i) (.int j) = some (.int (i - j)) := fun _ _ => rfl
  have ad : ∀ i j : Int, binF .add (.int i) (.int j) = some (.int (i + j)) := fun _ _ => rfl
  have p30 : binF .pow (.int 10) (.int 30) = some (.int 1000000000000000000000000000000) := rfl
  have p6 : binF .pow (.int 10) (.int 6) = some (.int 1000000) := rfl
  obtain ⟨cs, e1⟩ := open_ok (m + 4) ns
  have e1' : (SG (m + 5)).call 6 [.scr (ns.map .int)] [] = .ok (.ref 0) (pen cs 0 0) := e1
  obtain ⟨r, a1, z1, e2, r0, r1, b1, b2⟩ := take_ok (m + 3) cs 0 0 1000000 (by omega) (by omega) (by omega) (by omega)
  have e2' : (SG (m + 5)).call 8 [.ref 0, .int 1000000] (pen cs 0 0) = .ok (.int r) (pen cs a1 z1) := e2
  generalize hS : (some (.val (.scr (ns.map PV.int))) : Option FV) = S
  have st0 : startF F12.N [.scr (ns.map .int)] = [S, none, none, none, none, none, none, none, none, none, none] := by
    rw [← hS]
    rfl
  obtain ⟨x2, l1⟩ := loop1 m S (some (.val (.ref 0))) none none none none none none none none (pen cs 0 0) (rangeF (-5) 126) none fun x hx => by
    obtain ⟨i, rfl, _, h⟩ := rangeF_int hx
    exact ⟨i, rfl, by omega⟩
  obtain ⟨x4, l2⟩ := loop2 m S (some (.val (.ref 0))) x2 (some (.val (.seq false (oddL r)))) none none none none none none (pen cs a1 z1) (oddL r) none (odd_ok (m + 3) r r0 _)
  obtain ⟨y2, y4, y6, y7, y8, y9, a2, z2, l3⟩ := loop3 m S cs (some (.val (.seq false (oddL r)))) none (rangeF 0 12) x2 x4 none none none none a1 z1 (by omega) (by simp [rangeF]; omega)
  refine ⟨pen cs a2 z2, ?_⟩
  have hb : exS (SG (m + 5)) F12.body (startF F12.N [.scr (ns.map .int)]) [] = .rt (.bl true) (pen cs a2 z2) := by
    rw [law_body, st0]
    rw [seq_set (st' := pen cs 0 0) (p := .ref 0) (by simp [← hS, e1']) rfl (by simp)]
    rw [seq_for (st' := pen cs 0 0) (xs := rangeF (-5) 126) (by
      have := rng2 (-5) 121 (by omega) (by omega) (by rw [szl]; omega)
      simp [sb, this])]
    show Res.then (forRun (.nm 2) (exS (SG (m + 5)) lb1) (rangeF (-5) 126) [S, some (.val (.ref 0)), none, none, none, none, none, none, none, none, none] (pen cs 0 0)) _ = _
    rw [l1, Res.then_nx]
    rw [seq_set (st' := pen cs a1 z1) (p := .seq false (oddL r)) (by simp [oddL, sb, ad, p30, p6, e2', szl]) rfl (by simp)]
    rw [seq_for (st' := pen cs a1 z1) (xs := oddL r) (by simp [seqF])]
    show Res.then (forRun (.nm 4) (exS (SG (m + 5)) lb2) (oddL r) [S, some (.val (.ref 0)), x2, some (.val (.seq false (oddL r))), none, none, none, none, none, none, none] (pen cs a1 z1)) _ = _
    rw [l2, Res.then_nx]
    rw [seq_set (st' := pen cs a1 z1) (p := .seq false (prL.map .int)) (by
      have hr := rng1 98 (by omega) (by rw [szl]; omega)
      have hc := comp_filter (cnd := evC (SG (m + 5)) (.call 10 (.cons (.var 10) .nil) .nil)) (els := evE (SG (m + 5)) (.var 10)) (i := 10) (fr := wipeF [S, some (.val (.ref 0)), x2, some (.val (.seq false (oddL r))), x4, none, none, none, none, none, none] [10]) (st := pen cs a1 z1) (by simp [wipeF]) isPv (rangeF 0 98) [] (fun x hx => by
        obtain ⟨i, rfl, h1, h2⟩ := rangeF_int hx
        have q : (SG (m + 5)).call 10 [.int i] (pen cs a1 z1) = .ok (.bl (isP i)) (pen cs a1 z1) := lawp_int (m + 4) i _ (by omega)
        rw [evC_some (by intro z; cases z)]
        simp [evT, wipeF, q, truF, isPv])
      rw [prl'] at hc
      simp [hr, hc]) rfl (by simp)]
    rw [seq_for (st' := pen cs a1 z1) (xs := rangeF 0 12) (by
      have := rng1 12 (by omega) (by rw [szl]; omega)
      simp [this])]
    show Res.then (forRun (.nm 6) (exS (SG (m + 5)) lb3) (rangeF 0 12) [S, some (.val (.ref 0)), x2, some (.val (.seq false (oddL r))), x4, some (.val (.seq false (prL.map .int))), none, none, none, none, none] (pen cs a1 z1)) _ = _
    rw [l3, Res.then_nx]
    simp
  show outR (exS (SG (m + 5)) F12.body (startF F12.N [.scr (ns.map .int)]) []) = _
  rw [hb]
  rfl
end K01
set_option Elab.async false
set_option linter.all false
set_option maxRecDepth 100000
set_option maxHeartbeats 8000000
namespace K01
open PySem PySem.Spec Rm
theorem still {K : PySem.W.Frag} {h : Heap} {mg : Str → Option Value} (X : K.In h) (G : h.Ns mainGlobals mg)
    {f0 : Addr} {od0 an0 : Option Addr} {oc0 kV0 dc0 pm0 cd0 ct0 : Value} {sl0 : Array (Option Value)}
    {f1 : Addr} {od1 an1 : Option Addr} {oc1 kV1 dc1 pm1 cd1 ct1 : Value} {sl1 : Array (Option Value)}
    {f2 : Addr} {od2 an2 : Option Addr} {oc2 kV2 dc2 pm2 cd2 ct2 : Value} {sl2 : Array (Option Value)}
    {f3 : Addr} {od3 an3 : Option Addr} {oc3 kV3 dc3 pm3 cd3 ct3 : Value} {sl3 : Array (Option Value)}
    {f4 : Addr} {od4 an4 : Option Addr} {oc4 kV4 dc4 pm4 cd4 ct4 : Value} {sl4 : Array (Option Value)}
    {f5 : Addr} {od5 an5 : Option Addr} {oc5 kV5 dc5 pm5 cd5 ct5 : Value} {sl5 : Array (Option Value)}
    {f6 : Addr} {od6 an6 : Option Addr} {oc6 kV6 dc6 pm6 cd6 ct6 : Value} {sl6 : Array (Option Value)}
    {f7 : Addr} {od7 an7 : Option Addr} {oc7 kV7 dc7 pm7 cd7 ct7 : Value} {sl7 : Array (Option Value)}
    {f8 : Addr} {od8 an8 : Option Addr} {oc8 kV8 dc8 pm8 cd8 ct8 : Value} {sl8 : Array (Option Value)}
    {f9 : Addr} {od9 an9 : Option Addr} {oc9 kV9 dc9 pm9 cd9 ct9 : Value} {sl9 : Array (Option Value)}
    {f10 : Addr} {od10 an10 : Option Addr} {oc10 kV10 dc10 pm10 cd10 ct10 : Value} {sl10 : Array (Option Value)}
    {f11 : Addr} {od11 an11 : Option Addr} {oc11 kV11 dc11 pm11 cd11 ct11 : Value} {sl11 : Array (Option Value)}
    {f12 : Addr} {od12 an12 : Option Addr} {oc12 kV12 dc12 pm12 cd12 ct12 : Value} {sl12 : Array (Option Value)}
    (a0 : PySem.W.nsIn K mainGlobals "is_whole" = some (some (.ref f0))) (l0 : K.lookup f0 = some ⟨oc0, od0, .func (PySem.W.fnOf "is_whole" "is_whole" (L2.defArgs (topS 8)) (L2.defBody (topS 8)) (L2.defScope (topS 8)) .none kV0 dc0 pm0 an0 cd0 ct0), sl0⟩)
    (c0 : PySem.W.codeIn K cd0 "is_whole" = true) (k0 : PySem.W.keepIn K (.ref f0) = true)
    (a1 : PySem.W.nsIn K mainGlobals "is_prime" = some (some (.ref f1))) (l1 : K.lookup f1 = some ⟨oc1, od1, .func (PySem.W.fnOf "is_prime" "is_prime" (L2.defArgs (topS 9)) (L2.defBody (topS 9)) (L2.defScope (topS 9)) .none kV1 dc1 pm1 an1 cd1 ct1), sl1⟩)
    (c1 : PySem.W.codeIn K cd1 "is_prime" = true) (k1 : PySem.W.keepIn K (.ref f1) = true)
    (a2 : PySem.W.nsIn K mainGlobals "need_prime" = some (some (.ref f2))) (l2 : K.lookup f2 = some ⟨oc2, od2, .func (PySem.W.fnOf "need_prime" "need_prime" (L2.defArgs (topS 10)) (L2.defBody (topS 10)) (L2.defScope (topS 10)) .none kV2 dc2 pm2 an2 cd2 ct2), sl2⟩)
    (c2 : PySem.W.codeIn K cd2 "need_prime" = true) (k2 : PySem.W.keepIn K (.ref f2) = true)
    (a3 : PySem.W.nsIn K mainGlobals "contrary_of" = some (some (.ref f3))) (l3 : K.lookup f3 = some ⟨oc3, od3, .func (PySem.W.fnOf "contrary_of" "contrary_of" (L2.defArgs (topS 11)) (L2.defBody (topS 11)) (L2.defScope (topS 11)) .none kV3 dc3 pm3 an3 cd3 ct3), sl3⟩)
    (c3 : PySem.W.codeIn K cd3 "contrary_of" = true) (k3 : PySem.W.keepIn K (.ref f3) = true)
    (a4 : PySem.W.nsIn K mainGlobals "contrary" = some (some (.ref f4))) (l4 : K.lookup f4 = some ⟨oc4, od4, .func (PySem.W.fnOf "contrary" "contrary" (L2.defArgs (topS 12)) (L2.defBody (topS 12)) (L2.defScope (topS 12)) .none kV4 dc4 pm4 an4 cd4 ct4), sl4⟩)
    (c4 : PySem.W.codeIn K cd4 "contrary" = true) (k4 : PySem.W.keepIn K (.ref f4) = true)
    (a5 : PySem.W.nsIn K mainGlobals "_law_spread" = some (some (.ref f5))) (l5 : K.lookup f5 = some ⟨oc5, od5, .func (PySem.W.fnOf "_law_spread" "_law_spread" (L2.defArgs (topS 14)) (L2.defBody (topS 14)) (L2.defScope (topS 14)) .none kV5 dc5 pm5 an5 cd5 ct5), sl5⟩)
    (c5 : PySem.W.codeIn K cd5 "_law_spread" = true) (k5 : PySem.W.keepIn K (.ref f5) = true)
    (a6 : PySem.W.nsIn K mainGlobals "_law_open" = some (some (.ref f6))) (l6 : K.lookup f6 = some ⟨oc6, od6, .func (PySem.W.fnOf "_law_open" "_law_open" (L2.defArgs (topS 15)) (L2.defBody (topS 15)) (L2.defScope (topS 15)) .none kV6 dc6 pm6 an6 cd6 ct6), sl6⟩)
    (c6 : PySem.W.codeIn K cd6 "_law_open" = true) (k6 : PySem.W.keepIn K (.ref f6) = true)
    (a7 : PySem.W.nsIn K mainGlobals "_law_anew" = some (some (.ref f7))) (l7 : K.lookup f7 = some ⟨oc7, od7, .func (PySem.W.fnOf "_law_anew" "_law_anew" (L2.defArgs (topS 16)) (L2.defBody (topS 16)) (L2.defScope (topS 16)) .none kV7 dc7 pm7 an7 cd7 ct7), sl7⟩)
    (c7 : PySem.W.codeIn K cd7 "_law_anew" = true) (k7 : PySem.W.keepIn K (.ref f7) = true)
    (a8 : PySem.W.nsIn K mainGlobals "_law_take" = some (some (.ref f8))) (l8 : K.lookup f8 = some ⟨oc8, od8, .func (PySem.W.fnOf "_law_take" "_law_take" (L2.defArgs (topS 17)) (L2.defBody (topS 17)) (L2.defScope (topS 17)) .none kV8 dc8 pm8 an8 cd8 ct8), sl8⟩)
    (c8 : PySem.W.codeIn K cd8 "_law_take" = true) (k8 : PySem.W.keepIn K (.ref f8) = true)
    (a9 : PySem.W.nsIn K mainGlobals "_law_one" = some (some (.ref f9))) (l9 : K.lookup f9 = some ⟨oc9, od9, .func (PySem.W.fnOf "_law_one" "_law_one" (L2.defArgs (topS 18)) (L2.defBody (topS 18)) (L2.defScope (topS 18)) .none kV9 dc9 pm9 an9 cd9 ct9), sl9⟩)
    (c9 : PySem.W.codeIn K cd9 "_law_one" = true) (k9 : PySem.W.keepIn K (.ref f9) = true)
    (a10 : PySem.W.nsIn K mainGlobals "_law_is_prime" = some (some (.ref f10))) (l10 : K.lookup f10 = some ⟨oc10, od10, .func (PySem.W.fnOf "_law_is_prime" "_law_is_prime" (L2.defArgs (topS 19)) (L2.defBody (topS 19)) (L2.defScope (topS 19)) .none kV10 dc10 pm10 an10 cd10 ct10), sl10⟩)
    (c10 : PySem.W.codeIn K cd10 "_law_is_prime" = true) (k10 : PySem.W.keepIn K (.ref f10) = true)
    (a11 : PySem.W.nsIn K mainGlobals "_law_word" = some (some (.ref f11))) (l11 : K.lookup f11 = some ⟨oc11, od11, .func (PySem.W.fnOf "_law_word" "_law_word" (L2.defArgs (topS 20)) (L2.defBody (topS 20)) (L2.defScope (topS 20)) .none kV11 dc11 pm11 an11 cd11 ct11), sl11⟩)
    (c11 : PySem.W.codeIn K cd11 "_law_word" = true) (k11 : PySem.W.keepIn K (.ref f11) = true)
    (a12 : PySem.W.nsIn K mainGlobals "law" = some (some (.ref f12))) (l12 : K.lookup f12 = some ⟨oc12, od12, .func (PySem.W.fnOf "law" "law" (L2.defArgs (topS 21)) (L2.defBody (topS 21)) (L2.defScope (topS 21)) .none kV12 dc12 pm12 an12 cd12 ct12), sl12⟩)
    (c12 : PySem.W.codeIn K cd12 "law" = true) (k12 : PySem.W.keepIn K (.ref f12) = true)
    (hc : clsB K clL ancL rsL = true) (hb : bltB K = true) (hg : glB K glL = true) : ∃ (T : Gtab) (C : Nat → Addr), Still T C fsL (glL.map (·.2)) ancL K mg := by
  obtain ⟨q1, q2, q3⟩ := clsB_ok X G hc
  refine ⟨TL, clsAt K clL, rfl, fun j F e => ?_, bltB_ok X G hb, glB_ok X G hg, q1, q2, q3⟩
  match j, e with
  | 0, e =>
    cases e
    exact ⟨topS 8, fnAt_mk X G a0 l0 c0 k0 fun _ _ _ _ _ _ us ws h1 h2 => match us, ws, h1, h2 with | [_], [], _, _ => rfl, ck0⟩
  | 1, e =>
    cases e
    exact ⟨topS 9, fnAt_mk X G a1 l1 c1 k1 fun _ _ _ _ _ _ us ws h1 h2 => match us, ws, h1, h2 with | [_], [], _, _ => rfl, ck1⟩
  | 2, e =>
    cases e
    exact ⟨topS 10, fnAt_mk X G a2 l2 c2 k2 fun _ _ _ _ _ _ us ws h1 h2 => match us, ws, h1, h2 with | [_], [], _, _ => rfl, ck2⟩
  | 3, e =>
    cases e
    exact ⟨topS 11, fnAt_mk X G a3 l3 c3 k3 fun _ _ _ _ _ _ us ws h1 h2 => match us, ws, h1, h2 with | [_, _], [], _, _ => rfl, ck3⟩
  | 4, e =>
    cases e
    exact ⟨topS 12, fnAt_mk X G a4 l4 c4 k4 fun _ _ _ _ _ _ us ws h1 h2 => match us, ws, h1, h2 with | [_], [_], _, _ => rfl, ck4⟩
  | 5, e =>
    cases e
    exact ⟨topS 14, fnAt_mk X G a5 l5 c5 k5 fun _ _ _ _ _ _ us ws h1 h2 => match us, ws, h1, h2 with | [_, _], [], _, _ => rfl, ck5⟩
  | 6, e =>
    cases e
    exact ⟨topS 15, fnAt_mk X G a6 l6 c6 k6 fun _ _ _ _ _ _ us ws h1 h2 => match us, ws, h1, h2 with | [_], [], _, _ => rfl, ck6⟩
  | 7, e =>
    cases e
    exact ⟨topS 16, fnAt_mk X G a7 l7 c7 k7 fun _ _ _ _ _ _ us ws h1 h2 => match us, ws, h1, h2 with | [_], [], _, _ => rfl, ck7⟩
  | 8, e =>
    cases e
    exact ⟨topS 17, fnAt_mk X G a8 l8 c8 k8 fun _ _ _ _ _ _ us ws h1 h2 => match us, ws, h1, h2 with | [_, _], [], _, _ => rfl, ck8⟩
  | 9, e =>
    cases e
    exact ⟨topS 18, fnAt_mk X G a9 l9 c9 k9 fun _ _ _ _ _ _ us ws h1 h2 => match us, ws, h1, h2 with | [_, _], [], _, _ => rfl, ck9⟩
  | 10, e =>
    cases e
    exact ⟨topS 19, fnAt_mk X G a10 l10 c10 k10 fun _ _ _ _ _ _ us ws h1 h2 => match us, ws, h1, h2 with | [_], [], _, _ => rfl, ck10⟩
  | 11, e =>
    cases e
    exact ⟨topS 20, fnAt_mk X G a11 l11 c11 k11 fun _ _ _ _ _ _ us ws h1 h2 => match us, ws, h1, h2 with | [_, _], [], _, _ => rfl, ck11⟩
  | 12, e =>
    cases e
    exact ⟨topS 21, fnAt_mk X G a12 l12 c12 k12 fun _ _ _ _ _ _ us ws h1 h2 => match us, ws, h1, h2 with | [_], [], _, _ => rfl, ck12⟩
  | n + 13, e => simp [fsL] at e
theorem law_all (ns : List Int) (_ : ns.length ≤ 63) (_ : ∀ z ∈ ns, Builtin.Int.intBits z ≤ 1048576) : ∃ st, runFn (sigAt fsL (glL.map (·.2)) ancL 0 5) F12 [.scr (ns.map .int)] [] = .ok (.bl true) st := law_run 0 ns
theorem law_at : fsL[12]? = some F12 := rfl
end K01
set_option Elab.async false
set_option linter.all false
set_option maxRecDepth 100000
set_option maxHeartbeats 8000000
open PySem PySem.W PyProof.Rows
theorem PySem.Challenge.cw_rootrooms_k01_primes_and_contraries_holds : PySem.Challenge.rw_rootrooms_k01_primes_and_contraries.Holds := by
  w_on; o_law; k_head; (case hw => w_witness2)
  k_fill
  apply Rm.walk_run (l := PySem.Challenge.rw_rootrooms_k01_primes_and_contraries) (n := 63) (k := 5) (fs := K01.fsL) (gl := K01.glL.map (·.2)) (anc := K01.ancL) (fuel := 0) (j := 12) (L := K01.F12)
  case hn => rfl
  case hn2 => decide
  case hdf => rfl
  case hr => exact ⟨rfl, by decide, by decide⟩
  case hY => exact fun w h Y => PySem.W.kIn_of Y
  case hL => exact K01.law_at
  case hnm => rfl
  case hnp => rfl
  case hks => rfl
  case hrun => exact K01.law_all
  case F =>
    intro w mg h KX G
    refine' K01.still KX G ?a0 ?l0 ?c0 ?k0 ?a1 ?l1 ?c1 ?k1 ?a2 ?l2 ?c2 ?k2 ?a3 ?l3 ?c3 ?k3 ?a4 ?l4 ?c4 ?k4 ?a5 ?l5 ?c5 ?k5 ?a6 ?l6 ?c6 ?k6 ?a7 ?l7 ?c7 ?k7 ?a8 ?l8 ?c8 ?k8 ?a9 ?l9 ?c9 ?k9 ?a10 ?l10 ?c10 ?k10 ?a11 ?l11 ?c11 ?k11 ?a12 ?l12 ?c12 ?k12 ?zc ?zb ?zg
    (case a0 => k_is)
    (case l0 => k_is)
    (case c0 => k_is)
    (case k0 => k_is)
    (case a1 => k_is)
    (case l1 => k_is)
    (case c1 => k_is)
    (case k1 => k_is)
    (case a2 => k_is)
    (case l2 => k_is)
    (case c2 => k_is)
    (case k2 => k_is)
    (case a3 => k_is)
    (case l3 => k_is)
    (case c3 => k_is)
    (case k3 => k_is)
    (case a4 => k_is)
    (case l4 => k_is)
    (case c4 => k_is)
    (case k4 => k_is)
    (case a5 => k_is)
    (case l5 => k_is)
    (case c5 => k_is)
    (case k5 => k_is)
    (case a6 => k_is)
    (case l6 => k_is)
    (case c6 => k_is)
    (case k6 => k_is)
    (case a7 => k_is)
    (case l7 => k_is)
    (case c7 => k_is)
    (case k7 => k_is)
    (case a8 => k_is)
    (case l8 => k_is)
    (case c8 => k_is)
    (case k8 => k_is)
    (case a9 => k_is)
    (case l9 => k_is)
    (case c9 => k_is)
    (case k9 => k_is)
    (case a10 => k_is)
    (case l10 => k_is)
    (case c10 => k_is)
    (case k10 => k_is)
    (case a11 => k_is)
    (case l11 => k_is)
    (case c11 => k_is)
    (case k11 => k_is)
    (case a12 => k_is)
    (case l12 => k_is)
    (case c12 => k_is)
    (case k12 => k_is)
    (case zc => kernel_rfl)
    (case zb => kernel_rfl)
    (case zg => kernel_rfl)
