import PyProof.Rows.All
import Wide.All
import OpenK.AllK
import Wide.FinOn
import HandS.ForMost
import HandS.ForExc
import HandS.Walk
import HandS.TupAny
import HandS.TupMul
import HandS.Style
import HandS.Deep
import HandS.IsInst
import HandS.ExcIs
import HandS.CallSlots
import HandS.Zip0
import HandS.Zip
import KE.GoesEnumKw
import HandS.Flow
import HandS.Conv
import HandS.More
import HandS.Small
import HandS.Words
import HandS.Ends
import HandS.Defaults
import OpenK.KWalk
import OpenK.KLine
import HandS.EndBits
import PySem.Challenge.RW_rootrooms_k03_products_sums_times
set_option Elab.async false
set_option linter.all false
/-! The small language of this proof: values, terms, statements, and what they come to. Plain Lean. -/
namespace Rm
open PySem

/-- a value: seq true is a tuple, seq false a list that nobody changes any more; ref n the n-th list of the store; loc i the list that slot i alone holds; exc c p a caught error of class c with its field p; scr the script's list; ins c fs an instance of the own class c, its fields in order -/
inductive PV where
  | non | bl (b : Bool) | int (i : Int) | str (x : Str)
  | seq (t : Bool) (xs : List PV)
  | ref (n : Nat) | loc (i : Nat)
  | exc (c : Nat) (p : PV)
  | scr (xs : List PV)
  | ins (c : Nat) (fs : List PV)
  deriving Inhabited

abbrev Sto := List (List PV)
inductive FV where
  | val (p : PV) | own (xs : List PV)
  deriving Inhabited
abbrev Frm := List (Option FV)

inductive Out (α : Type) where
  | ok (a : α) (st : Sto) | exc (c : Nat) (p : PV) (st : Sto) | bad

def Out.bind {α β : Type} : Out α → (α → Sto → Out β) → Out β
  | .ok a st, f => f a st
  | .exc c p st, _ => .exc c p st
  | .bad, _ => .bad
@[simp] theorem Out.bind_ok {α β : Type} (a : α) (st : Sto) (f : α → Sto → Out β) : (Out.ok a st).bind f = f a st := rfl
@[simp] theorem Out.bind_exc {α β : Type} (c : Nat) (p : PV) (st : Sto) (f : α → Sto → Out β) : (Out.exc c p st : Out α).bind f = .exc c p st := rfl
@[simp] theorem Out.bind_bad {α β : Type} (f : α → Sto → Out β) : (Out.bad : Out α).bind f = .bad := rfl
def Out.of {α : Type} (o : Option α) (st : Sto) : Out α := match o with
  | some a => .ok a st
  | none => .bad
@[simp] theorem Out.of_some {α : Type} (a : α) (st : Sto) : Out.of (some a) st = .ok a st := rfl
@[simp] theorem Out.of_none {α : Type} (st : Sto) : (Out.of none st : Out α) = .bad := rfl

/-- no marker of a slot's own list -/
def keep : PV → Bool
  | .loc _ => false
  | _ => true
def keepAll (xs : List PV) : Bool := xs.all keep
@[simp] theorem keep_non : keep .non = true := rfl
@[simp] theorem keep_bl (b : Bool) : keep (.bl b) = true := rfl
@[simp] theorem keep_int (i : Int) : keep (.int i) = true := rfl
@[simp] theorem keep_str (x : Str) : keep (.str x) = true := rfl
@[simp] theorem keep_seq (t : Bool) (xs : List PV) : keep (.seq t xs) = true := rfl
@[simp] theorem keep_ref (n : Nat) : keep (.ref n) = true := rfl
@[simp] theorem keep_exc (c : Nat) (p : PV) : keep (.exc c p) = true := rfl
@[simp] theorem keep_scr (xs : List PV) : keep (.scr xs) = true := rfl
@[simp] theorem keep_ins (c : Nat) (fs : List PV) : keep (.ins c fs) = true := rfl
@[simp] theorem keep_loc (i : Nat) : keep (.loc i) = false := rfl
@[simp] theorem keepAll_nil : keepAll [] = true := rfl
@[simp] theorem keepAll_cons (x : PV) (xs : List PV) : keepAll (x :: xs) = (keep x && keepAll xs) := by simp [keepAll]

/-- the list that a marker stands for -/
def deref (fr : Frm) (st : Sto) : PV → PV
  | .ref n => match st[n]? with
    | some xs => .seq false xs
    | none => .ref n
  | .loc i => match fr[i]? with
    | some (some (.own xs)) => .seq false xs
    | _ => .loc i
  | p => p
@[simp] theorem deref_non (fr : Frm) (st : Sto) : deref fr st .non = .non := rfl
@[simp] theorem deref_bl (fr : Frm) (st : Sto) (b : Bool) : deref fr st (.bl b) = .bl b := rfl
@[simp] theorem deref_int (fr : Frm) (st : Sto) (i : Int) : deref fr st (.int i) = .int i := rfl
@[simp] theorem deref_str (fr : Frm) (st : Sto) (x : Str) : deref fr st (.str x) = .str x := rfl
@[simp] theorem deref_seq (fr : Frm) (st : Sto) (t : Bool) (xs : List PV) : deref fr st (.seq t xs) = .seq t xs := rfl
@[simp] theorem deref_scr (fr : Frm) (st : Sto) (xs : List PV) : deref fr st (.scr xs) = .scr xs := rfl
@[simp] theorem deref_exc (fr : Frm) (st : Sto) (c : Nat) (p : PV) : deref fr st (.exc c p) = .exc c p := rfl

@[simp] theorem deref_ins (fr : Frm) (st : Sto) (c : Nat) (fs : List PV) : deref fr st (.ins c fs) = .ins c fs := rfl

/-! ### data: what == and repr read -/
mutual
def dat : PV → PyData
  | .non => .none
  | .bl b => .bool b
  | .int i => .int i
  | .str x => .str x
  | .seq true xs => .tuple (dats xs)
  | .seq false xs => .list (dats xs)
  | _ => .dict []
def dats : List PV → List PyData
  | [] => []
  | x :: xs => dat x :: dats xs
end
mutual
def isDat : PV → Bool
  | .non | .bl _ | .int _ => true
  | .str x => PyData.canLay0 (.str x)
  | .seq _ xs => areDat xs
  | _ => false
def areDat : List PV → Bool
  | [] => true
  | x :: xs => isDat x && areDat xs
end
/-- data at most 64 deep -/
def okEq (p : PV) : Bool := isDat p && decide ((dat p).depth ≤ 64)
/-- .. whose text fits -/
def okRepr (p : PV) : Bool := isDat p && decide ((dat p).depth ≤ 64) && (dat p).showable && decide ((dat p).shown.length ≤ sizeLine)

/-! ### operators -/
inductive Op where | add | sub | mul | fdiv | mod | pow
  deriving DecidableEq
inductive Cop where | eq | ne | lt | le | gt | ge | isin | notin | is_ | isnot
  deriving DecidableEq
inductive Blt where | len | sum | all | any | int | str | bool | repr | tuple | list | sorted | abs | max | min
  deriving DecidableEq
/-- what isinstance asks for -/
inductive Ty where | int | bool | str | tuple | list | cls (c : Nat) | own (c : Nat) | vErr
  deriving DecidableEq

def small (i : Int) : Bool := decide (-(2 ^ 64) < i ∧ i < 2 ^ 64)
def fits (n : Nat) : Bool := decide (n ≤ sizeLine)

def binF : Op → PV → PV → Option PV
  | .add, .int i, .int j => some (.int (i + j))
  | .add, .int i, .bl b => some (.int (i + if b then 1 else 0))
  | .add, .seq t xs, .seq u ys => if t = u ∧ fits (xs.length + ys.length) = true then some (.seq t (xs ++ ys)) else none
  | .sub, .int i, .int j => some (.int (i - j))
  | .mul, .int i, .int j => if small i = true ∨ small j = true then some (.int (i * j)) else none
  | .mul, .seq t xs, .int k => if small k = true ∧ k < 2 ^ 63 ∧ -(2 ^ 63) ≤ k ∧ fits (xs.length * k.toNat) = true then some (.seq t (List.replicate k.toNat xs).flatten) else none
  | .fdiv, .int i, .int j => if j ≠ 0 ∧ j.natAbs < 1073741824 then some (.int (i.fdiv j)) else none
  | .mod, .int i, .int j => if j ≠ 0 then some (.int (i.fmod j)) else none
  | .pow, .int i, .int j => if 0 ≤ j ∧ j ≤ 1000000 ∧ i.natAbs < 2 ^ 64 then some (.int (i ^ j.toNat)) else none
  | _, _, _ => none

def eqF (p q : PV) : Option Bool := if okEq p = true ∧ okEq q = true then some (PyData.eqv (dat p) (dat q)) else none
def inF (p : PV) (xs : List PV) : Option Bool := if okEq p = true ∧ okEq (.seq true xs) = true then some ((dats xs).any fun z => PyData.eqv z (dat p)) else none
def idxOfF (p : PV) (xs : List PV) : Option Nat := if okEq p = true ∧ okEq (.seq false xs) = true then (dats xs).findIdx? fun z => PyData.eqv z (dat p) else none
def cntF (p : PV) (xs : List PV) : Option Nat := if okEq p = true ∧ okEq (.seq false xs) = true then some ((dats xs).countP fun z => PyData.eqv z (dat p)) else none
/-- is None, is True, is False -/
def isF : PV → PV → Option Bool
  | .bl a, .bl b => some (decide (a = b))
  | .non, .non => some true
  | .bl _, .non | .int _, .non | .str _, .non | .seq _ _, .non | .ref _, .non | .exc _ _, .non | .scr _, .non | .ins _ _, .non => some false
  | _, _ => none

def cmpF : Cop → PV → PV → Option Bool
  | .eq, p, q => eqF p q
  | .ne, p, q => (eqF p q).map not
  | .lt, .int i, .int j => some (decide (i < j))
  | .le, .int i, .int j => some (decide (i ≤ j))
  | .gt, .int i, .int j => some (decide (j < i))
  | .ge, .int i, .int j => some (decide (j ≤ i))
  | .isin, p, .seq _ xs => inF p xs
  | .notin, p, .seq _ xs => (inF p xs).map not
  | .is_, p, q => isF p q
  | .isnot, p, q => (isF p q).map not
  | _, _, _ => none

def truF : PV → Option Bool
  | .non => some false
  | .bl b => some b
  | .int i => some (i != 0)
  | .str x => if fits x.length = true then some (x.length != 0) else none
  | .seq _ xs => some (!xs.isEmpty)
  | _ => none

def idxF : PV → PV → Option PV
  | .seq _ xs, .int i => L2.atI xs i
  | _, _ => none
def cutF (lo hi : Option Int) : PV → Option PV
  | .seq t xs => some (.seq t ((xs.drop (HT.sIx xs.length 0 lo)).take (HT.sIx xs.length xs.length hi - HT.sIx xs.length 0 lo)))
  | .scr xs => some (.seq false ((xs.drop (HT.sIx xs.length 0 lo)).take (HT.sIx xs.length xs.length hi - HT.sIx xs.length 0 lo)))
  | _ => none
def revF : PV → Option PV
  | .seq t xs => some (.seq t xs.reverse)
  | _ => none

def intBL : List PV → Option (List Int)
  | [] => some []
  | .int i :: r => (intBL r).map (i :: ·)
  | .bl b :: r => (intBL r).map ((if b then 1 else 0) :: ·)
  | _ => none
def intL : List PV → Option (List Int)
  | [] => some []
  | .int i :: r => (intL r).map (i :: ·)
  | _ => none
def boolL : List PV → Option (List Bool)
  | [] => some []
  | .bl b :: r => (boolL r).map (b :: ·)
  | _ => none

/-- whole numbers sorted -/
def insI (x : Int) : List Int → List Int
  | [] => [x]
  | y :: ys => if x ≤ y then x :: y :: ys else y :: insI x ys
def srtI : List Int → List Int
  | [] => []
  | x :: xs => insI x (srtI xs)
def sortF (xs : List PV) : Option PV := (intL xs).bind fun ns => if ns.length < 64 then some (.seq false ((srtI ns).map .int)) else none
def bltF : Blt → List PV → Option PV
  | .len, [.seq _ xs] => some (.int xs.length)
  | .len, [.scr xs] => some (.int xs.length)
  | .sum, [.seq _ xs] => (intL xs).map fun ns => .int ns.sum
  | .all, [.seq false xs] => (boolL xs).map fun bs => .bl (bs.all id)
  | .any, [.seq false xs] => (boolL xs).map fun bs => .bl (bs.any id)
  | .int, [.int i] => some (.int i)
  | .int, [.bl b] => some (.int (if b then 1 else 0))
  | .str, [.int i] => if i.natAbs.log2 < 1920 then some (.str (toString i)) else none
  | .bool, [.bl b] => some (.bl b)
  | .repr, [p] => if okRepr p = true then some (.str (dat p).shown) else none
  | .tuple, [.seq _ xs] => some (.seq true xs)
  | .list, [.seq _ xs] => some (.seq false xs)
  | .abs, [.int i] => some (.int (if i < 0 then -i else i))
  | .sorted, [.seq false xs] => sortF xs
  | .max, [.seq _ xs] => (intL xs).bind fun ns => (ns.max?).map .int
  | .min, [.seq _ xs] => (intL xs).bind fun ns => (ns.min?).map .int
  | .max, [.int i, .int j] => some (.int (if j > i then j else i))
  | .min, [.int i, .int j] => some (.int (if j < i then j else i))
  | _, _ => none

/-! ### terms -/
/-- targets -/
inductive T where
  | nm (i : Nat) | tp (l : T) | nil | cons (a l : T)
/-- expressions; nil, cons: lists of them; it..: what a loop walks -/
inductive E where
  | var (i : Nat) | cst (p : PV) | glb (k : Nat)
  | neg (a : E) | not (a : E)
  | bin (op : Op) (a b : E) | cmp (op : Cop) (a b : E) | chn (o1 o2 : Cop) (a b c : E)
  | and (l : E) | or (l : E) | ite (c a b : E)
  | tup (l : E) | lst (l : E) | nil | cons (a l : E)
  | sub (a i : E) | slc (a lo hi : E) | rev (a : E)
  | call (f : Nat) (l k : E) | blt (b : Blt) (l : E) | isi (a : E) (ts : List Ty) | fld (a : E)
  | idx (a x : E) | cnt (a x : E)
  | comp (own : List Nat) (elt : E) (tg : T) (it c : E)
  | comp2 (own : List Nat) (elt : E) (tg : T) (it : E) (own2 : List Nat) (tg2 : T) (it2 : E)
  | itS (a : E) | itR (l : E) | itE (a : E) | itZ (s : Bool) (a b : E)
  | fldI (a : E) (c k : Nat) | lnI (f c : Nat) (a : E) | eqI (f c : Nat) (neg : Bool) (a b : E) | lrg (t : Bool) (a b : E) | mcl (f c : Nat) (a l : E)

mutual
/-- a target takes a value -/
def asg : T → PV → Frm → Option Frm
  | .nm i, p, fr => if i < fr.length then some (fr.set i (some (.val p))) else none
  | .tp l, .seq true xs, fr => asgL l xs fr
  | _, _, _ => none
def asgL : T → List PV → Frm → Option Frm
  | .nil, [], fr => some fr
  | .cons a l, x :: xs, fr => (asg a x fr).bind fun fr => asgL l xs fr
  | _, _, _ => none
end

structure Sig where
  call : Nat → List PV → Sto → Out PV
  glb : List PV
  /-- the classes above the c-th, itself among them -/
  anc : List (List Nat)
  /-- the turns that a while may take -/
  fuel : Nat
  /-- how many own classes there are -/
  own : Nat := 0

def isiF (S : Sig) : PV → Ty → Option Bool
  | .exc c _, .cls d => (S.anc[c]?).map fun l => l.contains d
  | .exc c _, .vErr => (S.anc[c]?).map fun _ => true
  | .ins c _, .own d => if c < S.own then some (c == d) else none
  | .ins c _, _ => if c < S.own then some false else none
  | .exc c _, _ => (S.anc[c]?).map fun _ => false
  | .int _, .int => some true
  | .bl _, .int => some true
  | .bl _, .bool => some true
  | .str _, .str => some true
  | .seq true _, .tuple => some true
  | .seq false _, .list => some true
  | .loc _, _ => none
  | .ref _, _ => none
  | .scr _, _ => none
  | _, _ => some false
def isiAny (S : Sig) (p : PV) : List Ty → Option Bool
  | [] => some false
  | t :: ts => match isiF S p t with
    | some true => some true
    | some false => isiAny S p ts
    | none => none

def wipeF (fr : Frm) : List Nat → Frm
  | [] => fr
  | v :: vs => (wipeF fr vs).set v none

/-- one clause of a comprehension -/
def compRun (els : Frm → Sto → Out PV) (cnd : Frm → Sto → Out Bool) (tg : T) (fr : Frm) : List PV → List PV → Sto → Out (List PV)
  | [], acc, st => .ok acc st
  | x :: xs, acc, st => match asg tg x fr with
    | none => .bad
    | some fr1 => match cnd fr1 st with
      | .ok true st => match els fr1 st with
        | .ok p st => if keep p = true then compRun els cnd tg fr xs (acc ++ [p]) st else .bad
        | _ => .bad
      | .ok false st => compRun els cnd tg fr xs acc st
      | _ => .bad

/-- two clauses -/
def comp2Run (ev2 : Frm → Sto → Out (List PV)) (els : Frm → Sto → Out PV) (tg tg2 : T) (own2 : List Nat) (fr : Frm) : List PV → List PV → Sto → Out (List PV)
  | [], acc, st => .ok acc st
  | x :: xs, acc, st => match asg tg x fr with
    | none => .bad
    | some fr1 => match ev2 fr1 st with
      | .ok zs st => if fits (acc.length + zs.length) = true then (match compRun els (fun _ st => .ok true st) tg2 (wipeF fr1 own2) zs acc st with
        | .ok acc st => comp2Run ev2 els tg tg2 own2 fr xs acc st
        | _ => .bad) else .bad
      | _ => .bad
def enumF (i : Nat) : List PV → List PV
  | [] => []
  | x :: xs => .seq true [.int i, x] :: enumF (i + 1) xs
def zipF : List PV → List PV → List PV
  | x :: xs, y :: ys => .seq true [x, y] :: zipF xs ys
  | _, _ => []
def rangeF (lo : Int) (n : Nat) : List PV := (List.range n).map fun k => .int (lo + (k : Nat))
def inRange (i : Int) : Bool := decide (-(2 ^ 62) ≤ i ∧ i < 2 ^ 62)

def negF : PV → Option PV
  | .int i => some (.int (-i))
  | _ => none
def intF : PV → Option Int
  | .int i => some i
  | _ => none
def blF : PV → Option Bool
  | .bl b => some b
  | _ => none
def idxM (y : PV) : PV → Option PV
  | .seq false xs => (idxOfF y xs).map fun (j : Nat) => .int (j : Int)
  | _ => none
def cntM (y : PV) : PV → Option PV
  | .seq false xs => (cntF y xs).map fun (j : Nat) => .int (j : Int)
  | _ => none
def seqF : PV → Option (List PV)
  | .seq _ xs => some xs
  | _ => none
def lstF : PV → Option (List PV)
  | .seq false xs => some xs
  | _ => none
def rngF : List PV → Option (List PV)
  | [.int n] => if inRange n = true ∧ fits n.toNat = true then some (rangeF 0 n.toNat) else none
  | [.int a, .int b] => if inRange a = true ∧ inRange b = true ∧ fits (b - a).toNat = true then some (rangeF a (b - a).toNat) else none
  | _ => none
def fldF (c k : Nat) : PV → Option PV
  | .ins d fs => if d = c then fs[k]? else none
  | _ => none
def insF (c : Nat) : PV → Option PV
  | .ins d fs => if d = c then some (.ins d fs) else none
  | _ => none
def zipM (s : Bool) (xs ys : List PV) : Option (List PV) := if s = true then (if xs.length = ys.length then some (zipF xs ys) else none) else some (zipF xs ys)
def excF : PV → Option PV
  | .exc _ p => some p
  | _ => none

/-- a bound of a slice -/
def optO (e : E) (r : Out PV) (st : Sto) : Out (Option Int) := match e with
  | .nil => .ok none st
  | _ => r.bind fun p st => (Out.of (intF p) st).bind fun i st => .ok (some i) st
/-- a clause's test -/
def tstC (e : E) (r : Frm → Sto → Out PV) : Frm → Sto → Out Bool := fun fr st => match e with
  | .nil => .ok true st
  | _ => (r fr st).bind fun p st => .of (truF (deref fr st p)) st
mutual
def evE (S : Sig) : E → Frm → Sto → Out PV
  | .var i, fr, st => match fr[i]? with
    | some (some (.val p)) => .ok p st
    | some (some (.own _)) => .ok (.loc i) st
    | _ => .bad
  | .cst p, _, st => .ok p st
  | .glb k, _, st => .of S.glb[k]? st
  | .neg a, fr, st => (evE S a fr st).bind fun p st => .of (negF p) st
  | .not a, fr, st => (evE S a fr st).bind fun p st => (Out.of (truF (deref fr st p)) st).bind fun b st => .ok (.bl (!b)) st
  | .bin op a b, fr, st => (evE S a fr st).bind fun x st => (evE S b fr st).bind fun y st => .of (binF op (deref fr st x) (deref fr st y)) st
  | .cmp op a b, fr, st => (evE S a fr st).bind fun x st => (evE S b fr st).bind fun y st => (Out.of (cmpF op (deref fr st x) (deref fr st y)) st).bind fun k st => .ok (.bl k) st
  | .chn o1 o2 a b c, fr, st => (evE S a fr st).bind fun x st => (evE S b fr st).bind fun y st => (Out.of (cmpF o1 (deref fr st x) (deref fr st y)) st).bind fun k st =>
      if k = true then (evE S c fr st).bind fun z st => (Out.of (cmpF o2 (deref fr st y) (deref fr st z)) st).bind fun k st => .ok (.bl k) st else .ok (.bl false) st
  | .and l, fr, st => evA S l fr st
  | .or l, fr, st => evR S l fr st
  | .ite c a b, fr, st => (evE S c fr st).bind fun x st => (Out.of (truF (deref fr st x)) st).bind fun k st => if k = true then evE S a fr st else evE S b fr st
  | .tup l, fr, st => (evL S l fr st).bind fun xs st => if keepAll xs = true ∧ fits xs.length = true then .ok (.seq true xs) st else .bad
  | .lst l, fr, st => (evL S l fr st).bind fun xs st => if keepAll xs = true ∧ fits xs.length = true then .ok (.seq false xs) st else .bad
  | .sub a i, fr, st => (evE S a fr st).bind fun x st => (evE S i fr st).bind fun y st => .of (idxF (deref fr st x) y) st
  | .slc a lo hi, fr, st => (evE S a fr st).bind fun x st => (optO lo (evE S lo fr st) st).bind fun l st => (optO hi (evE S hi fr st) st).bind fun h st => .of (cutF l h (deref fr st x)) st
  | .rev a, fr, st => (evE S a fr st).bind fun x st => .of (revF (deref fr st x)) st
  | .call f l k, fr, st => (evL S l fr st).bind fun xs st => (evL S k fr st).bind fun ys st => if keepAll (xs ++ ys) = true then S.call f (xs ++ ys) st else .bad
  | .blt b l, fr, st => (evL S l fr st).bind fun xs st => .of (bltF b (xs.map (deref fr st))) st
  | .isi a ts, fr, st => (evE S a fr st).bind fun x st => (Out.of (isiAny S (deref fr st x) ts) st).bind fun k st => .ok (.bl k) st
  | .fld a, fr, st => (evE S a fr st).bind fun x st => .of (excF x) st
  | .idx a x, fr, st => (evE S a fr st).bind fun v st => (Out.of (lstF (deref fr st v)) st).bind fun _ st => (evE S x fr st).bind fun y st => .of (idxM (deref fr st y) (deref fr st v)) st
  | .cnt a x, fr, st => (evE S a fr st).bind fun v st => (Out.of (lstF (deref fr st v)) st).bind fun _ st => (evE S x fr st).bind fun y st => .of (cntM (deref fr st y) (deref fr st v)) st
  | .comp own elt tg it c, fr, st => (evI S it fr st).bind fun xs st => (compRun (evE S elt) (tstC c (evE S c)) tg (wipeF fr own) xs [] st).bind fun ys st => .ok (.seq false ys) st
  | .comp2 own elt tg it own2 tg2 it2, fr, st => (evI S it fr st).bind fun xs st => (comp2Run (evI S it2) (evE S elt) tg tg2 own2 (wipeF fr own) xs [] st).bind fun ys st => .ok (.seq false ys) st
  | .fldI a c k, fr, st => (evE S a fr st).bind fun x st => .of (fldF c k x) st
  | .lnI f c a, fr, st => (evE S a fr st).bind fun x st => (Out.of (insF c x) st).bind fun x st => (S.call f [x] st).bind fun n st => (Out.of (intF n) st).bind fun i st => if 0 ≤ i ∧ i < 2 ^ 62 then .ok (.int i) st else .bad
  | .eqI f c neg a b, fr, st => (evE S a fr st).bind fun x st => (evE S b fr st).bind fun y st => (Out.of (insF c x) st).bind fun x st => if keep y = true then (S.call f [x, y] st).bind fun k st => (Out.of (blF k) st).bind fun k st => .ok (.bl (k != neg)) st else .bad
  | .mcl f c a l, fr, st => (evE S a fr st).bind fun x st => (Out.of (insF c x) st).bind fun x st => (evL S l fr st).bind fun xs st => if keepAll xs = true then S.call f (x :: xs) st else .bad
  | .lrg t a b, fr, st => (evE S a fr st).bind fun x st => (optO b (evE S b fr st) st).bind fun o st => (Out.of (rngF (x :: (match o with | none => [] | some i => [.int i]))) st).bind fun ys st => .ok (.seq t ys) st
  | _, _, _ => .bad
/-- and, from the left: all are truths -/
def evA (S : Sig) : E → Frm → Sto → Out PV
  | .cons a l, fr, st => (evE S a fr st).bind fun x st => (Out.of (blF x) st).bind fun b st => if b = true then evA S l fr st else .ok (.bl false) st
  | .nil, _, st => .ok (.bl true) st
  | _, _, _ => .bad
/-- or -/
def evR (S : Sig) : E → Frm → Sto → Out PV
  | .cons a l, fr, st => (evE S a fr st).bind fun x st => (Out.of (blF x) st).bind fun b st => if b = true then .ok (.bl true) st else evR S l fr st
  | .nil, _, st => .ok (.bl false) st
  | _, _, _ => .bad
/-- a list of expressions -/
def evL (S : Sig) : E → Frm → Sto → Out (List PV)
  | .nil, _, st => .ok [] st
  | .cons a l, fr, st => (evE S a fr st).bind fun x st => (evL S l fr st).bind fun xs st => .ok (x :: xs) st
  | _, _, _ => .bad
/-- what is walked -/
def evI (S : Sig) : E → Frm → Sto → Out (List PV)
  | .itS a, fr, st => (evE S a fr st).bind fun x st => .of (seqF x) st
  | .itR l, fr, st => (evL S l fr st).bind fun xs st => .of (rngF xs) st
  | .itE a, fr, st => (evE S a fr st).bind fun x st => .of ((seqF x).map (enumF 0)) st
  | .itZ s a b, fr, st => (evE S a fr st).bind fun x st => (evE S b fr st).bind fun y st => (Out.of (seqF x) st).bind fun xs st => (Out.of (seqF y) st).bind fun ys st => .of (zipM s xs ys) st
  | _, _, _ => .bad
end
def evO (S : Sig) (e : E) (fr : Frm) (st : Sto) : Out (Option Int) := optO e (evE S e fr st) st
def evC (S : Sig) (e : E) : Frm → Sto → Out Bool := tstC e (evE S e)
end Rm
set_option Elab.async false
set_option linter.all false
/-! What the small language's values are in the heap, and how that lasts. -/
namespace Rm
open PySem PySem.Spec L2

/-- F: the lists that stay; r: where the store's lists stand; o: where the slots' own lists stand -/
structure Wd where
  F : Addr → Prop
  r : Nat → Option Addr
  o : Nat → Option Addr
def Wd.withO (W : Wd) (o : Nat → Option Addr) : Wd := { W with o := o }
def Wd.also (W : Wd) (a : Addr) : Wd := { W with F := fun b => W.F b ∨ b = a }

/-- a caught error of the class at C, its own dict d -/
def excHO (a C : Addr) (d : Option Addr) : HO := .ext fun h => ∃ oe vs, h.get? a = some oe ∧ oe.cls = .ref C ∧ oe.dict = d ∧ oe.data = .fields vs

/-- a list of the written part -/
def KList (K : PySem.W.Frag) (a : Addr) (us : List V) : Prop :=
  ∃ (o : Obj) (its : Array Value) (n : Nat), K.lookup a = some o ∧ o.cls = .type "list" ∧ o.dict = none ∧ o.data = .seq its n ∧ its.size ≤ sizeLine ∧ Vals us its.toList

/-- the fields of an own class' instances, in the order in which they are set; its class stands at C (1000 + c) -/
def fldsOf : Nat → List Str
  | 0 => ["rooms", "arrows", "prime", "places"]
  | _ => []
mutual
inductive Den (K : PySem.W.Frag) (C : Nat → Addr) (W : Wd) (H : Hp) : V → PV → Prop
  | non : Den K C W H .non .non
  | bl (b : Bool) : Den K C W H (.bl b) (.bl b)
  | int (i : Int) : Den K C W H (.int i) (.int i)
  | str (x : Str) : Den K C W H (.str x) (.str x)
  | tup {a : Addr} {us : List V} {xs : List PV} : SqT K H a us → Dens K C W H us xs → Den K C W H (.ref a) (.seq true xs)
  | lst {a : Addr} {us : List V} {xs : List PV} : W.F a → H a = some (.lst us) → Dens K C W H us xs → Den K C W H (.ref a) (.seq false xs)
  | scr {a : Addr} {us : List V} {xs : List PV} : (∃ o, H a = some (.frz o (.lst us))) ∨ KList K a us → Dens K C W H us xs → Den K C W H (.ref a) (.scr xs)
  | ref {a : Addr} {n : Nat} : W.r n = some a → Den K C W H (.ref a) (.ref n)
  | exc {a : Addr} {c : Nat} : H a = some (excHO a (C c) none) → Den K C W H (.ref a) (.exc c .non)
  | ins {a dx : Addr} {c : Nat} {us : List V} {xs : List PV} : H a = some (.ins (C (1000 + c)) dx ((fldsOf c).zip us)) → us.length = (fldsOf c).length → Dens K C W H us xs → Den K C W H (.ref a) (.ins c xs)
inductive Dens (K : PySem.W.Frag) (C : Nat → Addr) (W : Wd) (H : Hp) : List V → List PV → Prop
  | nil : Dens K C W H [] []
  | cons {v : V} {vs : List V} {p : PV} {ps : List PV} : Den K C W H v p → Dens K C W H vs ps → Dens K C W H (v :: vs) (p :: ps)
end

section
variable {K : PySem.W.Frag} {C : Nat → Addr} {W W' W2 : Wd} {H H' H2 : Hp} {v : V} {p : PV} {us : List V} {xs ys : List PV} {σ : St} {fr : Frm} {st st' : Sto}

theorem Dens.len : ∀ {us : List V} {xs : List PV}, Dens K C W H us xs → us.length = xs.length
  | _, _, .nil => rfl
  | _, _, .cons _ t => congrArg Nat.succ (Dens.len t)
theorem Dens.get : ∀ {us : List V} {xs : List PV} {i : Nat} {p : PV}, Dens K C W H us xs → xs[i]? = some p → ∃ u, us[i]? = some u ∧ Den K C W H u p
  | _, _, _, _, .nil, e => by simp at e
  | _, _, 0, p, .cons r _, e => by
    simp at e
    subst e
    exact ⟨_, rfl, r⟩
  | _, _, i + 1, p, .cons _ t, e => by
    obtain ⟨u, h1, h2⟩ := Dens.get (i := i) (p := p) t (by simpa using e)
    exact ⟨u, by simpa using h1, h2⟩
theorem Dens.getV : ∀ {us : List V} {xs : List PV} {i : Nat} {u : V}, Dens K C W H us xs → us[i]? = some u → ∃ p, xs[i]? = some p ∧ Den K C W H u p
  | _, _, _, _, .nil, e => by simp at e
  | _, _, 0, p, .cons r _, e => by
    simp at e
    subst e
    exact ⟨_, rfl, r⟩
  | _, _, i + 1, p, .cons _ t, e => by
    obtain ⟨u, h1, h2⟩ := Dens.getV (i := i) (u := p) t (by simpa using e)
    exact ⟨u, by simpa using h1, h2⟩
theorem Dens.app : ∀ {us ws : List V} {xs ys : List PV}, Dens K C W H us xs → Dens K C W H ws ys → Dens K C W H (us ++ ws) (xs ++ ys)
  | _, _, _, _, .nil, s => s
  | _, _, _, _, .cons r t, s => .cons r (Dens.app t s)
theorem Dens.take : ∀ {us : List V} {xs : List PV} (n : Nat), Dens K C W H us xs → Dens K C W H (us.take n) (xs.take n)
  | _, _, 0, _ => by simpa using .nil
  | _, _, _ + 1, .nil => .nil
  | _, _, n + 1, .cons r t => .cons r (Dens.take n t)
theorem Dens.drop : ∀ {us : List V} {xs : List PV} (n : Nat), Dens K C W H us xs → Dens K C W H (us.drop n) (xs.drop n)
  | _, _, 0, r => r
  | _, _, _ + 1, .nil => .nil
  | _, _, n + 1, .cons _ t => Dens.drop n t
theorem Dens.set : ∀ {us : List V} {xs : List PV} {v : V} {p : PV} (n : Nat), Dens K C W H us xs → Den K C W H v p → Dens K C W H (us.set n v) (xs.set n p)
  | _, _, _, _, _, .nil, _ => .nil
  | _, _, _, _, 0, .cons _ t, d => .cons d t
  | _, _, _, _, n + 1, .cons r t, d => .cons r (Dens.set n t d)
theorem Dens.rev : ∀ {us : List V} {xs : List PV}, Dens K C W H us xs → Dens K C W H us.reverse xs.reverse
  | _, _, .nil => .nil
  | _, _, .cons r t => by
    rw [List.reverse_cons, List.reverse_cons]
    exact (Dens.rev t).app (.cons r .nil)
theorem Dens.rep (d : Dens K C W H us xs) : ∀ k : Nat, Dens K C W H (List.replicate k us).flatten (List.replicate k xs).flatten
  | 0 => by simpa using .nil
  | k + 1 => by
    rw [List.replicate_succ, List.replicate_succ, List.flatten_cons, List.flatten_cons]
    exact d.app (Dens.rep d k)

theorem Rd.keep {a : Addr} {u : HO} (h : Rd H a u) (k : ∀ o, H a = some o → H' a = some o) : Rd H' a u := by
  rcases h with h | ⟨o, h⟩
  · exact .inl (k _ h)
  · exact .inr ⟨o, k _ h⟩
mutual
theorem Den.mono (hF : ∀ a, W.F a → W'.F a) (hr : ∀ n a, W.r n = some a → W'.r n = some a) 
    (hk : ∀ a o, H a = some o → (W.F a ∨ ∀ us, o ≠ .lst us) → H' a = some o) : ∀ {v : V} {p : PV}, Den K C W H v p → Den K C W' H' v p
  | _, _, .non => .non
  | _, _, .bl b => .bl b
  | _, _, .int i => .int i
  | _, _, .str x => .str x
  | _, _, .tup s d => .tup (by
      rcases s with (s | ⟨o, s⟩) | s
      · exact .inl (.inl (hk _ _ s (.inr fun us e => nomatch e)))
      · exact .inl (.inr ⟨o, hk _ _ s (.inr fun us e => nomatch e)⟩)
      · exact .inr s) (Dens.mono hF hr hk d)
  | _, _, .lst f s d => .lst (hF _ f) (hk _ _ s (.inl f)) (Dens.mono hF hr hk d)
  | _, _, .scr s d => .scr (by
      rcases s with ⟨o, s⟩ | s
      · exact .inl ⟨o, hk _ _ s (.inr fun us e => nomatch e)⟩
      · exact .inr s) (Dens.mono hF hr hk d)
  | _, _, .ref e => .ref (hr _ _ e)
  | _, _, .exc e => .exc (hk _ _ e (.inr fun us z => nomatch z))
  | _, _, .ins e l d => .ins (hk _ _ e (.inr fun us z => nomatch z)) l (Dens.mono hF hr hk d)
theorem Dens.mono (hF : ∀ a, W.F a → W'.F a) (hr : ∀ n a, W.r n = some a → W'.r n = some a) 
    (hk : ∀ a o, H a = some o → (W.F a ∨ ∀ us, o ≠ .lst us) → H' a = some o) : ∀ {us : List V} {xs : List PV}, Dens K C W H us xs → Dens K C W' H' us xs
  | _, _, .nil => .nil
  | _, _, .cons r t => .cons (Den.mono hF hr hk r) (Dens.mono hF hr hk t)
end

/-- lists and tuples are of a bounded length -/
def Sz (H : Hp) : Prop := ∀ a us, Rd H a (.lst us) ∨ Rd H a (.tup us) → us.length ≤ sizeLine
theorem Inv.sz' {X : Cx} {pins : List (Addr × Obj)} {s : Shared} (I : Inv X pins σ H s) : Sz H := fun a us h => by
  rcases h with h | h
  · exact (h.ok I.hok).1
  · exact (h.ok I.hok).1
structure Sep (W : Wd) (H : Hp) : Prop where
  rl : ∀ n a, W.r n = some a → ∃ us, H a = some (.lst us)
  ol : ∀ i a, W.o i = some a → ∃ us, H a = some (.lst us)
  Fs : ∀ a, W.F a → ∃ u, H a = some u
  Fr : ∀ a n, W.F a → W.r n ≠ some a
  Fo : ∀ a i, W.F a → W.o i ≠ some a
  ro : ∀ n i a, W.r n = some a → W.o i ≠ some a
  rr : ∀ n m a, W.r n = some a → W.r m = some a → n = m
  oo : ∀ n m a, W.o n = some a → W.o m = some a → n = m
/-- from one heap to a later one: what is none of the store's lists stays; what is new was free -/
structure Ext (W : Wd) (H : Hp) (W' : Wd) (H' : Hp) : Prop where
  kp : ∀ b u, H b = some u → (∀ n, W.r n ≠ some b) → H' b = some u
  th : ∀ b u, H b = some u → ∃ u', H' b = some u'
  F : ∀ a, W.F a → W'.F a
  Fn : ∀ a, W'.F a → W.F a ∨ H a = none
  r : ∀ n a, W.r n = some a → W'.r n = some a
  rn : ∀ n a, W'.r n = some a → W.r n = some a ∨ H a = none
theorem Ext.free (X : Ext W H W' H') {a : Addr} (h : H' a = none) : H a = none := by
  cases q : H a with
  | none => rfl
  | some u =>
    obtain ⟨u', e⟩ := X.th a u q
    rw [h] at e
    cases e
theorem Ext.refl (W : Wd) (H : Hp) : Ext W H W H := ⟨fun _ _ h _ => h, fun _ u h => ⟨u, h⟩, fun _ h => h, fun _ h => .inl h, fun _ _ h => h, fun _ _ h => .inl h⟩
theorem Ext.trans (X : Ext W H W' H') (Y : Ext W' H' W2 H2) : Ext W H W2 H2 where
  kp := fun b u h n => Y.kp b u (X.kp b u h n) fun m e => by
    rcases X.rn m b e with z | z
    · exact n m z
    · rw [h] at z
      cases z
  th := fun b u h => by
    obtain ⟨u1, h1⟩ := X.th b u h
    exact Y.th b u1 h1
  F := fun a h => Y.F a (X.F a h)
  Fn := fun a h => by
    rcases Y.Fn a h with z | z
    · exact X.Fn a z
    · exact .inr (X.free z)
  r := fun n a h => Y.r n a (X.r n a h)
  rn := fun n a h => by
    rcases Y.rn n a h with z | z
    · exact X.rn n a z
    · exact .inr (X.free z)
/-- a step that leaves the worlds' stores as they are -/
theorem Den.ext (S : Sep W H) (X : Ext W H W' H') (d : Den K C W H v p) : Den K C W' H' v p :=
  d.mono X.F X.r fun a u e q => X.kp a u e fun n z => by
    obtain ⟨us, e'⟩ := S.rl n a z
    rcases q with q | q
    · exact S.Fr a n q z
    · rw [e] at e'
      exact q us (Option.some.inj e')
theorem Dens.ext (S : Sep W H) (X : Ext W H W' H') (d : Dens K C W H us xs) : Dens K C W' H' us xs :=
  d.mono X.F X.r fun a u e q => X.kp a u e fun n z => by
    obtain ⟨us, e'⟩ := S.rl n a z
    rcases q with q | q
    · exact S.Fr a n q z
    · rw [e] at e'
      exact q us (Option.some.inj e')

structure RelS (K : PySem.W.Frag) (C : Nat → Addr) (W : Wd) (H : Hp) (st : Sto) : Prop where
  sep : Sep W H
  sz : Sz H
  str : ∀ (n : Nat) (xs : List PV), st[n]? = some xs → ∃ a us, W.r n = some a ∧ H a = some (.lst us) ∧ Dens K C W H us xs
  rn : ∀ n a, W.r n = some a → n < st.length
structure Rel (K : PySem.W.Frag) (C : Nat → Addr) (W : Wd) (H : Hp) (σ : St) (fr : Frm) (st : Sto) : Prop where
  s : RelS K C W H st
  len : fr.length = σ.length
  slt : ∀ (i : Nat) (p : PV), fr[i]? = some (some (.val p)) → ∃ v, σ[i]? = some (some v) ∧ Den K C W H v p
  own : ∀ (i : Nat) (xs : List PV), fr[i]? = some (some (.own xs)) → ∃ a us, σ[i]? = some (some (.ref a)) ∧ W.o i = some a ∧ H a = some (.lst us) ∧ Dens K C W H us xs
  on : ∀ (i : Nat) (a : Addr), W.o i = some a → ∃ xs, fr[i]? = some (some (.own xs))

/-- the slots of a frame, carried over a step that does not touch them -/
theorem Rel.ext (R : Rel K C W H σ fr st) (X : Ext W H W' H') (ho : W'.o = W.o) (S : RelS K C W' H' st') : Rel K C W' H' σ fr st' where
  s := S
  len := R.len
  slt := fun i p h => by
    obtain ⟨v, h1, h2⟩ := R.slt i p h
    exact ⟨v, h1, h2.ext R.s.sep X⟩
  own := fun i xs h => by
    obtain ⟨a, us, h1, h2, h3, h4⟩ := R.own i xs h
    exact ⟨a, us, h1, by rw [ho]; exact h2, X.kp a _ h3 fun n z => R.s.sep.ro n i a z h2, h4.ext R.s.sep X⟩
  on := fun i a h => R.on i a (by rw [← ho]; exact h)

/-- what an expression comes to: a value, or the marker of a slot's own list -/
def DenM (K : PySem.W.Frag) (C : Nat → Addr) (W : Wd) (H : Hp) (v : V) (p : PV) : Prop :=
  Den K C W H v p ∨ ∃ a i, p = .loc i ∧ v = .ref a ∧ W.o i = some a
theorem DenM.ext (S : Sep W H) (X : Ext W H W' H') (ho : W'.o = W.o) (d : DenM K C W H v p) : DenM K C W' H' v p := by
  rcases d with d | ⟨a, i, h1, h2, h3⟩
  · exact .inl (d.ext S X)
  · exact .inr ⟨a, i, h1, h2, by rw [ho]; exact h3⟩
theorem DenM.den (d : DenM K C W H v p) (h : keep p = true) : Den K C W H v p := by
  rcases d with d | ⟨a, i, h1, h2, h3⟩
  · exact d
  · subst h1
    cases h
abbrev DensM (K : PySem.W.Frag) (C : Nat → Addr) (W : Wd) (H : Hp) : List V → List PV → Prop := Paired (DenM K C W H)
theorem DensM.dens : ∀ {us : List V} {xs : List PV}, DensM K C W H us xs → keepAll xs = true → Dens K C W H us xs
  | _, _, .nil, _ => .nil
  | _, _, .cons r t, h => by
    simp only [keepAll_cons, Bool.and_eq_true] at h
    exact .cons (DenM.den r h.1) (DensM.dens t h.2)
theorem DensM.ext (S : Sep W H) (X : Ext W H W' H') (ho : W'.o = W.o) : ∀ {us : List V} {xs : List PV}, DensM K C W H us xs → DensM K C W' H' us xs
  | _, _, .nil => .nil
  | _, _, .cons r t => .cons (DenM.ext S X ho r) (DensM.ext S X ho t)
/-- what an operation reads: the value itself, or the list that a marker stands for -/
def DenB (K : PySem.W.Frag) (C : Nat → Addr) (W : Wd) (H : Hp) (v : V) (p : PV) : Prop :=
  Den K C W H v p ∨ ∃ a us xs, p = .seq false xs ∧ v = .ref a ∧ H a = some (.lst us) ∧ Dens K C W H us xs
theorem Rel.deref (R : Rel K C W H σ fr st) (d : DenM K C W H v p) : DenB K C W H v (deref fr st p) := by
  rcases d with d | ⟨a, i, rfl, rfl, e⟩
  · cases d with
    | non => exact .inl .non
    | bl b => exact .inl (.bl b)
    | int i => exact .inl (.int i)
    | str x => exact .inl (.str x)
    | tup s t => exact .inl (.tup s t)
    | lst f s t => exact .inl (.lst f s t)
    | scr s t => exact .inl (.scr s t)
    | exc e => exact .inl (.exc e)
    | ins e l d => exact .inl (.ins e l d)
    | ref e =>
      rename_i a n
      have hn := R.s.rn n a e
      obtain ⟨b, us, h1, h2, h3⟩ := R.s.str n st[n] (by simp [hn])
      rw [e] at h1
      cases h1
      refine .inr ⟨a, us, st[n], ?_, rfl, h2, h3⟩
      simp only [Rm.deref]
      rw [show st[n]? = some st[n] by simp [hn]]
  · obtain ⟨xs, hx⟩ := R.on i a e
    obtain ⟨b, us, _, h1, h2, h3⟩ := R.own i xs hx
    rw [e] at h1
    cases h1
    refine .inr ⟨a, us, xs, ?_, rfl, h2, h3⟩
    simp only [Rm.deref]
    rw [hx]
theorem DenB.list (d : DenB K C W H v (.seq false xs)) : ∃ a us, v = .ref a ∧ H a = some (.lst us) ∧ Dens K C W H us xs := by
  rcases d with d | ⟨a, us, ys, e, ev, h, ds⟩
  · cases d with
    | lst f s t => exact ⟨_, _, rfl, s, t⟩
  · cases e
    exact ⟨a, us, ev, h, ds⟩
theorem DenB.scr (d : DenB K C W H v (.scr xs)) : ∃ a us, v = .ref a ∧ SqL K H a us ∧ Dens K C W H us xs := by
  rcases d with d | ⟨a, us, ys, e, _⟩
  · cases d with
    | scr s t =>
      refine ⟨_, _, rfl, ?_, t⟩
      rcases s with ⟨o, s⟩ | s
      · exact .inl (.inr ⟨o, s⟩)
      · exact .inr s
  · cases e
theorem DenB.tup (d : DenB K C W H v (.seq true xs)) : ∃ a us, v = .ref a ∧ SqT K H a us ∧ Dens K C W H us xs := by
  rcases d with d | ⟨a, us, ys, e, _⟩
  · cases d with
    | tup s t => exact ⟨_, _, rfl, s, t⟩
  · cases e
theorem DenB.seqv {t : Bool} (d : DenB K C W H v (.seq t xs)) : ∃ a us, v = .ref a ∧ (SqL K H a us ∨ SqT K H a us) ∧ Dens K C W H us xs := by
  cases t with
  | false =>
    obtain ⟨a, us, h1, h2, h3⟩ := d.list
    exact ⟨a, us, h1, .inl (SqL.of h2), h3⟩
  | true =>
    obtain ⟨a, us, h1, h2, h3⟩ := d.tup
    exact ⟨a, us, h1, .inr h2, h3⟩
theorem DenB.int {i : Int} (d : DenB K C W H v (.int i)) : v = .int i := by
  rcases d with d | ⟨a, us, ys, e, _⟩
  · cases d
    rfl
  · cases e
theorem DenB.bl {b : Bool} (d : DenB K C W H v (.bl b)) : v = .bl b := by
  rcases d with d | ⟨a, us, ys, e, _⟩
  · cases d
    rfl
  · cases e
theorem DenB.str {x : Str} (d : DenB K C W H v (.str x)) : v = .str x := by
  rcases d with d | ⟨a, us, ys, e, _⟩
  · cases d
    rfl
  · cases e
theorem DenB.non (d : DenB K C W H v .non) : v = .non := by
  rcases d with d | ⟨a, us, ys, e, _⟩
  · cases d
    rfl
  · cases e

/-! ### data -/
mutual
theorem Den.dp : ∀ {v : V} {p : PV}, Den K C W H v p → isDat p = true → Dp K H v (dat p)
  | _, _, .non, _ => by simp only [dat]; exact .non
  | _, _, .bl b, _ => by simp only [dat]; exact .bl b
  | _, _, .int i, _ => by simp only [dat]; exact .int i
  | _, _, .str x, _ => by simp only [dat]; exact .str x
  | _, _, .tup s d, h => by simp only [dat]; exact .tup s (Dens.dp d (by simpa [isDat] using h))
  | _, _, .lst f s d, h => by
    simp only [dat]
    exact .lst (SqL.of s) (Dens.dp d (by simpa [isDat] using h))
  | _, _, .scr _ _, h => by simp [isDat] at h
  | _, _, .ref _, h => by simp [isDat] at h
  | _, _, .exc _, h => by simp [isDat] at h
  | _, _, .ins _ _ _, h => by simp [isDat] at h
theorem Dens.dp : ∀ {us : List V} {xs : List PV}, Dens K C W H us xs → areDat xs = true → DpAll K H us (dats xs)
  | _, _, .nil, _ => by simp only [dats]; exact .nil
  | _, _, .cons r t, h => by
    simp only [areDat, Bool.and_eq_true] at h
    simp only [dats]
    exact .cons (Den.dp r h.1) (Dens.dp t h.2)
end
mutual
theorem isDat_can : ∀ p : PV, isDat p = true → (dat p).canLay0 = true
  | .non, _ => by simp only [dat, PyData.canLay0]
  | .bl b, _ => by simp only [dat, PyData.canLay0]
  | .int i, _ => by simp only [dat, PyData.canLay0]
  | .str x, h => by simpa [dat, isDat] using h
  | .seq true xs, h => by
    simp only [dat, PyData.canLay0]
    exact areDat_can xs (by simpa [isDat] using h)
  | .seq false xs, h => by
    simp only [dat, PyData.canLay0]
    exact areDat_can xs (by simpa [isDat] using h)
  | .ref _, h => by simp [isDat] at h
  | .loc _, h => by simp [isDat] at h
  | .exc _ _, h => by simp [isDat] at h
  | .scr _, h => by simp [isDat] at h
  | .ins _ _, h => by simp [isDat] at h
theorem areDat_can : ∀ xs : List PV, areDat xs = true → PyData.canLayAll0 (dats xs) = true
  | [], _ => by simp only [dats, PyData.canLayAll0]
  | x :: xs, h => by
    simp only [areDat, Bool.and_eq_true] at h
    simp only [dats, PyData.canLayAll0, isDat_can x h.1, areDat_can xs h.2, Bool.and_self]
end
theorem DenB.dp (d : DenB K C W H v p) (h : isDat p = true) : Dp K H v (dat p) := by
  rcases d with d | ⟨a, us, ys, e, ev, hl, ds⟩
  · exact d.dp h
  · subst e ev
    simp only [dat]
    exact .lst (.inl (.inl hl)) (ds.dp (by simpa [isDat] using h))
theorem okEq_shaped (h : okEq p = true) : isDat p = true ∧ SeqAt.shaped (dat p) = true := by
  unfold okEq at h
  simp only [Bool.and_eq_true] at h
  refine ⟨h.1, ?_⟩
  unfold SeqAt.shaped
  rw [isDat_can p h.1, h.2]
  rfl
end
end Rm
set_option Elab.async false
set_option linter.all false
/-! Readings: what a term of the small language promises of the machine; the operators. -/
namespace Rm
open PySem PySem.Spec L2

def Post {α : Type} (o : Out α) (A : α → Sto → Prop) (B : Nat → PV → Sto → Prop) : Prop := match o with
  | .ok a st => A a st
  | .exc c p st => B c p st
  | .bad => False
theorem Post.bind {α β : Type} {o : Out α} {k : α → Sto → Out β} {A : β → Sto → Prop} {B : Nat → PV → Sto → Prop} (h : Post (o.bind k) A B) : Post o (fun a st => Post (k a st) A B) B := by
  cases o with
  | ok a st => exact h
  | exc c p st => exact h
  | bad => exact h
theorem Post.imp {α : Type} {o : Out α} {A A' : α → Sto → Prop} {B B' : Nat → PV → Sto → Prop} (h : Post o A B) (ha : ∀ a st, A a st → A' a st) (hb : ∀ c p st, B c p st → B' c p st) : Post o A' B' := by
  cases o with
  | ok a st => exact ha _ _ h
  | exc c p st => exact hb _ _ _ h
  | bad => exact h
theorem Post.of {α : Type} {o : Option α} {st : Sto} {A : α → Sto → Prop} {B : Nat → PV → Sto → Prop} (h : Post (Out.of o st) A B) : ∃ a, o = some a ∧ A a st := by
  cases o with
  | some a => exact ⟨a, rfl, h⟩
  | none => exact h.elim

/-- what a class number and a field say of an error -/
def ExcV (C : Nat → Addr) (c : Nat) (p : PV) (cls : Value) (d : Option Addr) : Prop := cls = .ref (C c) ∧ d = none ∧ p = .non

section
variable (K : PySem.W.Frag) (C : Nat → Addr) (Wx : WX)
def EndOk (W : Wd) (H : Hp) (σ : St) (fr : Frm) (st : Sto) (p : PV) (Q : VK) : Prop :=
  ∀ W' H' v, Ext W H W' H' → W'.o = W.o → Rel K C W' H' σ fr st → DenM K C W' H' v p → Q v H'
def EndX (W : Wd) (H : Hp) (σ : St) (fr : Frm) (c : Nat) (p : PV) (st : Sto) : Prop :=
  ∀ W' H' cls d, Ext W H W' H' → W'.o = W.o → Rel K C W' H' σ fr st → ExcV C c p cls d → Wx cls d σ H'
def EndL (W : Wd) (H : Hp) (σ : St) (fr : Frm) (st : Sto) (ps : List PV) (Q : List V → Hp → Prop) : Prop :=
  ∀ W' H' vs, Ext W H W' H' → W'.o = W.o → Rel K C W' H' σ fr st → DensM K C W' H' vs ps → Q vs H'
def EndT (W : Wd) (H : Hp) (σ : St) (fr : Frm) (st : Sto) (b : Bool) (Q : Bool → Hp → Prop) : Prop :=
  ∀ W' H', Ext W H W' H' → W'.o = W.o → Rel K C W' H' σ fr st → Q b H'
/-- as EndOk, but a list is told while nobody holds it yet -/
def EndFr (W : Wd) (H : Hp) (σ : St) (fr : Frm) (st : Sto) (p : PV) (Q : VK) : Prop :=
  (∀ W' H' v, (∀ xs, p ≠ .seq false xs) → Ext W H W' H' → W'.o = W.o → Rel K C W' H' σ fr st → DenM K C W' H' v p → Q v H') ∧
  ∀ W' H' a us xs, p = .seq false xs → Ext W H W' H' → W'.o = W.o → Rel K C W' H' σ fr st → H' a = some (.lst us) → Dens K C W' H' us xs → ¬ W'.F a → (∀ n, W'.r n ≠ some a) → (∀ i, W'.o i ≠ some a) → H a = none → Q (.ref a) H'
def tE (f : Frm → Sto → Out PV) : TE := fun σ H Q => ∃ W fr st, Rel K C W H σ fr st ∧ Post (f fr st) (fun p st' => EndOk K C W H σ fr st' p Q) (EndX K C Wx W H σ fr)
def tFr (f : Frm → Sto → Out PV) : TE := fun σ H Q => ∃ W fr st, Rel K C W H σ fr st ∧ Post (f fr st) (fun p st' => EndFr K C W H σ fr st' p Q) (EndX K C Wx W H σ fr)
def tL (f : Frm → Sto → Out (List PV)) : TA := fun σ H Q => ∃ W fr st, Rel K C W H σ fr st ∧ Post (f fr st) (fun ps st' => EndL K C W H σ fr st' ps Q) (EndX K C Wx W H σ fr)
def tT (f : Frm → Sto → Out Bool) : TT := fun σ H Q => ∃ W fr st, Rel K C W H σ fr st ∧ Post (f fr st) (fun b st' => EndT K C W H σ fr st' b Q) (EndX K C Wx W H σ fr)
end

section
variable {K : PySem.W.Frag} {C : Nat → Addr} {Wx : WX} {W W' W1 : Wd} {H H' H1 : Hp} {v : V} {p : PV} {us : List V} {xs ys : List PV} {σ : St} {fr : Frm} {st st' : Sto} {Q : VK}

theorem EndOk.shift (h : EndOk K C W H σ fr st p Q) (X : Ext W H W1 H1) (o : W1.o = W.o) : EndOk K C W1 H1 σ fr st p Q :=
  fun W' H' v X' o' R D => h W' H' v (X.trans X') (o'.trans o) R D
theorem EndX.shift {c : Nat} (h : EndX K C Wx W H σ fr c p st) (X : Ext W H W1 H1) (o : W1.o = W.o) : EndX K C Wx W1 H1 σ fr c p st :=
  fun W' H' cls d X' o' R D => h W' H' cls d (X.trans X') (o'.trans o) R D
theorem EndL.shift {ps : List PV} {Q : List V → Hp → Prop} (h : EndL K C W H σ fr st ps Q) (X : Ext W H W1 H1) (o : W1.o = W.o) : EndL K C W1 H1 σ fr st ps Q :=
  fun W' H' v X' o' R D => h W' H' v (X.trans X') (o'.trans o) R D
theorem EndT.shift {b : Bool} {Q : Bool → Hp → Prop} (h : EndT K C W H σ fr st b Q) (X : Ext W H W1 H1) (o : W1.o = W.o) : EndT K C W1 H1 σ fr st b Q :=
  fun W' H' X' o' R => h W' H' (X.trans X') (o'.trans o) R
theorem EndFr.shift (h : EndFr K C W H σ fr st p Q) (X : Ext W H W1 H1) (o : W1.o = W.o) : EndFr K C W1 H1 σ fr st p Q :=
  ⟨fun W' H' v hp X' o' R D => h.1 W' H' v hp (X.trans X') (o'.trans o) R D, fun W' H' a us xs hp X' o' R e D n1 n2 n3 hn => h.2 W' H' a us xs hp (X.trans X') (o'.trans o) R e D n1 n2 n3 (X.free hn)⟩

/-! ### a new object -/
theorem Sep.new {a : Addr} {u : HO} (S : Sep W H) (h : H a = none) : Sep W (upd H a u) where
  rl := fun n b e => by
    obtain ⟨us, z⟩ := S.rl n b e
    exact ⟨us, by rw [upd_ne (ne_of_none z h)]; exact z⟩
  ol := fun n b e => by
    obtain ⟨us, z⟩ := S.ol n b e
    exact ⟨us, by rw [upd_ne (ne_of_none z h)]; exact z⟩
  Fs := fun b e => by
    obtain ⟨us, z⟩ := S.Fs b e
    exact ⟨us, by rw [upd_ne (ne_of_none z h)]; exact z⟩
  Fr := S.Fr
  Fo := S.Fo
  ro := S.ro
  rr := S.rr
  oo := S.oo
theorem Ext.new {a : Addr} {u : HO} (h : H a = none) : Ext W H W (upd H a u) where
  kp := fun b o e _ => by rw [upd_ne (ne_of_none e h)]; exact e
  th := fun b o e => ⟨o, by rw [upd_ne (ne_of_none e h)]; exact e⟩
  F := fun _ e => e
  Fn := fun _ e => .inl e
  r := fun _ _ e => e
  rn := fun _ _ e => .inl e
theorem Rel.new {a : Addr} {u : HO} (R : Rel K C W H σ fr st) (h : H a = none) (z : Sz (upd H a u)) : Rel K C W (upd H a u) σ fr st :=
  R.ext (Ext.new h) rfl ⟨R.s.sep.new h, z, fun n xs e => by
    obtain ⟨b, us, h1, h2, h3⟩ := R.s.str n xs e
    exact ⟨b, us, h1, by rw [upd_ne (ne_of_none h2 h)]; exact h2, h3.ext R.s.sep (Ext.new h)⟩, R.s.rn⟩
theorem Sep.free {a : Addr} (S : Sep W H) (h : H a = none) : ¬ W.F a ∧ (∀ n, W.r n ≠ some a) ∧ ∀ i, W.o i ≠ some a := by
  refine ⟨fun z => ?_, fun n z => ?_, fun n z => ?_⟩
  · obtain ⟨u, e⟩ := S.Fs a z
    rw [h] at e
    cases e
  · obtain ⟨u, e⟩ := S.rl n a z
    rw [h] at e
    cases e
  · obtain ⟨u, e⟩ := S.ol n a z
    rw [h] at e
    cases e
/-- a list that nobody holds is one that stays -/
theorem Rel.also {a : Addr} {us : List V} (R : Rel K C W H σ fr st) (e : H a = some (.lst us)) (n2 : ∀ n, W.r n ≠ some a) (n3 : ∀ i, W.o i ≠ some a) : Rel K C (W.also a) H σ fr st := by
  have X : ∀ {v p}, Den K C W H v p → Den K C (W.also a) H v p := fun d => d.mono (W' := W.also a) (fun _ h => Or.inl h) (fun _ _ h => h) fun _ _ h _ => h
  have Xs : ∀ {v p}, Dens K C W H v p → Dens K C (W.also a) H v p := fun d => d.mono (W' := W.also a) (fun _ h => Or.inl h) (fun _ _ h => h) fun _ _ h _ => h
  refine ⟨⟨⟨R.s.sep.rl, R.s.sep.ol, fun b h => ?_, fun b n h => ?_, fun b n h => ?_, R.s.sep.ro, R.s.sep.rr, R.s.sep.oo⟩, R.s.sz, fun n xs h => ?_, R.s.rn⟩, R.len, fun i p h => ?_, fun i xs h => ?_, R.on⟩
  · rcases h with h | rfl
    · exact R.s.sep.Fs b h
    · exact ⟨_, e⟩
  · rcases h with h | rfl
    · exact R.s.sep.Fr b n h
    · exact n2 n
  · rcases h with h | rfl
    · exact R.s.sep.Fo b n h
    · exact n3 n
  · obtain ⟨b, us, h1, h2, h3⟩ := R.s.str n xs h
    exact ⟨b, us, h1, h2, Xs h3⟩
  · obtain ⟨v, h1, h2⟩ := R.slt i p h
    exact ⟨v, h1, X h2⟩
  · obtain ⟨b, us, h1, h2, h3, h4⟩ := R.own i xs h
    exact ⟨b, us, h1, h2, h3, Xs h4⟩
theorem Ext.also {a : Addr} (X : Ext W H W' H') (h : H a = none) : Ext W H (W'.also a) H' where
  kp := X.kp
  th := X.th
  F := fun b e => .inl (X.F b e)
  Fn := fun b e => by
    rcases e with e | rfl
    · exact X.Fn b e
    · exact .inr h
  r := X.r
  rn := X.rn
theorem Dens.also {a : Addr} (d : Dens K C W H us xs) : Dens K C (W.also a) H us xs := d.mono (W' := W.also a) (fun _ h => Or.inl h) (fun _ _ h => h) fun _ _ h _ => h
theorem EndOk.fresh (h : EndOk K C W H σ fr st p Q) : EndFr K C W H σ fr st p Q :=
  ⟨fun W' H' v _ X o R D => h W' H' v X o R D, fun W' H' a us xs hp X o R e D n1 n2 n3 hn => by
    subst hp
    exact h (W'.also a) H' (.ref a) (X.also hn) o (R.also e n2 n3) (.inl (.lst (Or.inr rfl) e D.also))⟩
theorem tE_fr {f : Frm → Sto → Out PV} (h : tE K C Wx f σ H Q) : tFr K C Wx f σ H Q := by
  obtain ⟨W, fr, st, R, h⟩ := h
  exact ⟨W, fr, st, R, h.imp (fun _ _ z => EndOk.fresh z) fun _ _ _ z => z⟩

/-- what an operation gives: a plain value, a new list or tuple, a tuple that stands -/
def Gv (K : PySem.W.Frag) (C : Nat → Addr) (W : Wd) (H : Hp) (z : PV) (Q : VK) : Prop := match z with
  | .non => Q .non H
  | .bl b => Q (.bl b) H
  | .int i => Q (.int i) H
  | .str x => Q (.str x) H
  | .seq true xs => (∀ a us, H a = none → Dens K C W H us xs → Q (.ref a) (upd H a (.tup us))) ∧ ∀ a us, SqT K H a us → Dens K C W H us xs → Q (.ref a) H
  | .seq false xs => ∀ a us, H a = none → Dens K C W H us xs → Q (.ref a) (upd H a (.lst us))
  | _ => False
/-- .. is enough where a result is told fresh -/
def plainV : PV → Bool
  | .ref _ | .loc _ | .exc _ _ | .scr _ | .ins _ _ => false
  | _ => true
theorem EndFr.gv (R : Rel K C W H σ fr st) (h : EndFr K C W H σ fr st p Q) (pl : plainV p = true) : Gv K C W H p (fun v H' => Sz H' → Q v H') := by
  cases p with
  | non => exact fun z => h.1 W H _ (fun _ e => nomatch e) (.refl _ _) rfl R (.inl .non)
  | bl b => exact fun z => h.1 W H _ (fun _ e => nomatch e) (.refl _ _) rfl R (.inl (.bl b))
  | int i => exact fun z => h.1 W H _ (fun _ e => nomatch e) (.refl _ _) rfl R (.inl (.int i))
  | str x => exact fun z => h.1 W H _ (fun _ e => nomatch e) (.refl _ _) rfl R (.inl (.str x))
  | seq t xs =>
    cases t with
    | true =>
      refine ⟨fun a us hn D z => ?_, fun a us s D z => h.1 W H _ (fun _ e => nomatch e) (.refl _ _) rfl R (.inl (.tup s D))⟩
      exact h.1 W _ _ (fun _ e => nomatch e) (Ext.new hn) rfl (R.new hn z) (.inl (.tup (.inl (.inl upd_same)) (D.ext R.s.sep (Ext.new hn))))
    | false =>
      intro a us hn D z
      obtain ⟨n1, n2, n3⟩ := R.s.sep.free hn
      exact h.2 W _ a us xs rfl (Ext.new hn) rfl (R.new hn z) upd_same (D.ext R.s.sep (Ext.new hn)) n1 n2 n3 hn
  | ref n => cases pl
  | loc n => cases pl
  | exc c p => cases pl
  | scr xs => cases pl
  | ins c fs => cases pl
end

/-! ### rules weakened -/
theorem PE_imp {X : Cx} {e : Expr} {t t' : TE} (h : PE X e t) (k : ∀ σ H Q, Sz H → t' σ H Q → t σ H (fun v H' => Sz H' → Q v H')) : PE X e t' := by
  refine ⟨fun pins s σ H Q I hw => ?_⟩
  exact thn (h.run pins s σ H _ I (k σ H Q (Inv.sz' I) hw)) fun u s1 ⟨x, H1, I1, r1, q1⟩ => ⟨x, H1, I1, r1, q1 (Inv.sz' I1)⟩
theorem PT_imp {X : Cx} {e : Expr} {t t' : TT} (h : PT X e t) (k : ∀ σ H Q, Sz H → t' σ H Q → t σ H (fun v H' => Sz H' → Q v H')) : PT X e t' := by
  refine ⟨fun pins s σ H Q I hw => ?_⟩
  exact thn (h.run pins s σ H _ I (k σ H Q (Inv.sz' I) hw)) fun u s1 ⟨H1, I1, q1⟩ => ⟨H1, I1, q1 (Inv.sz' I1)⟩
theorem PA_imp {X : Cx} {e : List Expr} {t t' : TA} (h : PA X e t) (k : ∀ σ H Q, Sz H → t' σ H Q → t σ H (fun v H' => Sz H' → Q v H')) : PA X e t' := by
  refine ⟨fun pos pins s σ H Q I hw => ?_⟩
  exact thn (h.run pos pins s σ H _ I (k σ H Q (Inv.sz' I) hw)) fun u s1 ⟨x, H1, I1, r1, q1⟩ => ⟨x, H1, I1, r1, q1 (Inv.sz' I1)⟩

section
variable {X : Cx} {C : Nat → Addr}
/-! ### operators by values -/
def rB (K : PySem.W.Frag) (C : Nat → Addr) (F : PV → PV → Option PV) : R2 := fun x y H Q => ∃ W p q z, DenB K C W H x p ∧ DenB K C W H y q ∧ F p q = some z ∧ Gv K C W H z Q

theorem small_iff {i : Int} : small i = true ↔ (-(2 ^ 64) < i ∧ i < 2 ^ 64) := by
  unfold small
  exact decide_eq_true_iff
theorem op_of {op : Operator} {r r' : R2} (h : OpR X (binaryOp op) r) (k : ∀ x y H Q, r' x y H Q → r x y H Q) : OpR X (binaryOp op) r' :=
  fun pins s σ H x y v u Q I rx ry q => h pins s σ H x y v u Q I rx ry (k x y H Q q)
end
end Rm
set_option Elab.async false
set_option linter.all false
set_option maxHeartbeats 4000000
/-! The operators of the small language, by the machine's. -/
namespace Rm
open PySem PySem.Spec L2

def opA : Op → Operator
  | .add => .Add | .sub => .Sub | .mul => .Mult | .fdiv => .FloorDiv | .mod => .Mod | .pow => .Pow
def copA : Cop → CmpOp
  | .eq => .Eq | .ne => .NotEq | .lt => .Lt | .le => .LtE | .gt => .Gt | .ge => .GtE | .isin => .In | .notin => .NotIn | .is_ => .Is | .isnot => .IsNot

section
variable {X : Cx} {C : Nat → Addr}

theorem fits_iff {n : Nat} : fits n = true ↔ n ≤ sizeLine := by
  unfold fits
  exact decide_eq_true_iff

/-! ### tuple * int, of any size -/
theorem noFillT : fillsNumberSlot (.type "tuple") "mul" = pure false := noFill_tuple_mul
theorem tmul0 (l : Addr) (items : Array Value) (n : Nat) (dd : Option Addr) (sl : Array (Option Value)) (x : Int) (u : Tok) (c0 : (decide (x < -(2 ^ 63)) || decide (x ≥ 2 ^ 63)) = false) (c1 : (items.isEmpty || x == 1) = true) :
    Meets (Builtin.«tuple.__mul__» ⟨[.ref l, .int x u], []⟩) (fun _ R s => s.heap.get? l = some { cls := .type "tuple", dict := dd, data := .seq items n, slots := sl } ∧ R (.ok (.ret (Value.ref l))) s) :=
  .of_wp fun prog w A R s h => by
    obtain ⟨hp, g, d, tk, os⟩ := s
    obtain ⟨hl, h⟩ := h
    have f1 := AutoSeq1.idx_int
    wp_walk using wpAny_loadPart' hl
    refine wpAny_ite_false (decide_eq_false (by rw [c0]; exact Bool.false_ne_true)) ?_
    wp_walk using wpAny_loadPart' hl
    exact ⟨_, rfl, h⟩
theorem tmul1 (l : Addr) (items : Array Value) (n : Nat) (dd : Option Addr) (sl : Array (Option Value)) (x : Int) (u : Tok) (c0 : (decide (x < -(2 ^ 63)) || decide (x ≥ 2 ^ 63)) = false) (c1 : (items.isEmpty || x == 1) = false) (c2 : (decide (x ≤ 0) || items.isEmpty) = true) :
    Meets (Builtin.«tuple.__mul__» ⟨[.ref l, .int x u], []⟩) (fun _ R s => s.heap.get? l = some { cls := .type "tuple", dict := dd, data := .seq items n, slots := sl } ∧
      R (.ok (.ret (Value.ref s.heap.objs.size))) { s with heap := s.heap.push { cls := Value.type "tuple", data := Data.seq #[] } }) :=
  .of_wp fun prog w A R s h => by
    obtain ⟨hp, g, d, tk, os⟩ := s
    obtain ⟨hl, h⟩ := h
    have f1 := AutoSeq1.idx_int
    wp_walk using wpAny_loadPart' hl
    refine wpAny_ite_false (decide_eq_false (by rw [c0]; exact Bool.false_ne_true)) ?_
    wp_walk using wpAny_loadPart' hl
    exact ⟨_, rfl, h⟩
def rRepA (K : PySem.W.Frag) : R2 := fun x y H Q => ∃ l k xs, x = .ref l ∧ y = .int k ∧ SqT K H l xs ∧ -(2 ^ 63) ≤ k ∧ k < 2 ^ 63 ∧ xs.length * k.toNat ≤ sizeLine ∧
  (xs = [] ∨ k = 1 → Q (.ref l) H) ∧ ∀ p, H p = none → Q (.ref p) (upd H p (.tup (List.replicate k.toNat xs).flatten))
theorem op_repA : OpR X (binaryOp .Mult) (rRepA X.K) := by
  intro pins s σ H x y v u Q I rx ry h
  obtain ⟨l, k, xs, rfl, rfl, hT, h1, h2, hz, q0, q⟩ := h
  cases rx
  obtain ⟨t, rfl⟩ := ry
  obtain ⟨its, r, ⟨⟨cls, dd, data, sl⟩, ho, hc, n, hd⟩, hs⟩ := I.tuple hT
  simp only at hc hd
  subst hc hd
  have hle : its.length = xs.length := r.length.symm
  have hsz0 : its.toArray.size = xs.length := by rw [List.size_toArray, hle]
  have c0 : (decide (k < -(2 ^ 63)) || decide (k ≥ 2 ^ 63)) = false := by
    rw [decide_eq_false (by omega), decide_eq_false (by omega)] <;> rfl
  have road : ∀ {Q' : Value → Shared → Prop} {S : Builtin} , True := fun {_ _} => trivial
  by_cases hb : (its.toArray.isEmpty || k == 1) = true
  · have hx : xs = [] ∨ k = 1 := by
      rw [Bool.or_eq_true] at hb
      rcases hb with hb | hb
      · left
        have : its.toArray.size = 0 := by simpa [Array.isEmpty] using hb
        exact List.eq_nil_of_length_eq_zero (by omega)
      · exact .inr (by simpa using hb)
    refine wpAny_binaryOp_repeat_ref (T := "tuple") (U := "int") (by decide) ⟨_, ho, rfl⟩ (fun s' => typeIs_int s' k t) noFill_tuple_mul F.fills_int_mul F.slot_int_rmul repeat_tuple F.slot_int_index.lookup
      (call_meets F.slot_int_rmul (typeIs_int s k t) F.entry_int_rmul (F.args_int_rmul_2 _ _) (int_rmul_tuple k t l its.toArray n dd sl)
        ⟨ho, rfl, ⟨_, ho, rfl⟩, call_meets F.slot_tuple_mul ⟨_, ho, rfl⟩ F.entry_tuple_mul (F.args_tuple_mul_2 _ _) (tmul0 l its.toArray n dd sl k t c0 hb) ⟨ho, ?_⟩⟩)
    exact ⟨.ref l, H, I, rfl, q0 hx⟩
  · have c1 : (its.toArray.isEmpty || k == 1) = false := by simpa using hb
    have hne : its.toArray.isEmpty = false := by
      rw [Bool.or_eq_false_iff] at c1
      exact c1.1
    by_cases hk : k ≤ 0
    · have c2 : (decide (k ≤ 0) || its.toArray.isEmpty) = true := by rw [decide_eq_true hk]; rfl
      refine wpAny_binaryOp_repeat_ref (T := "tuple") (U := "int") (by decide) ⟨_, ho, rfl⟩ (fun s' => typeIs_int s' k t) noFill_tuple_mul F.fills_int_mul F.slot_int_rmul repeat_tuple F.slot_int_index.lookup
        (call_meets F.slot_int_rmul (typeIs_int s k t) F.entry_int_rmul (F.args_int_rmul_2 _ _) (int_rmul_tuple k t l its.toArray n dd sl)
          ⟨ho, rfl, ⟨_, ho, rfl⟩, call_meets F.slot_tuple_mul ⟨_, ho, rfl⟩ F.entry_tuple_mul (F.args_tuple_mul_2 _ _) (tmul1 l its.toArray n dd sl k t c0 c1 c2) ⟨ho, ?_⟩⟩)
      have e0 : (List.replicate k.toNat xs).flatten = [] := by
        rw [show k.toNat = 0 by omega]
        rfl
      have qq := q _ (I.hok.fresh (Nat.le_refl _))
      rw [e0] at qq
      exact ⟨.ref s.heap.objs.size, _, I.laid (t' := s.toks) (o := .tup []) (fun b ob q => Heap.get?_push_of_some _ q) (Nat.le_refl _) ⟨Nat.zero_le _, [], .nil, PyProof.Rows.IsTup.new _ _⟩, rfl, qq⟩
    · have c2 : (decide (k ≤ 0) || its.toArray.isEmpty) = false := by rw [decide_eq_false hk, hne]; rfl
      have flen : (List.replicate k.toNat its).flatten.length ≤ sizeLine := by
        rw [PyProof.Rows.lm_len_rep_flat, hle, Nat.mul_comm]
        exact hz
      have hm : ((its.toArray.size : Nat) : Int) * k ≤ (sizeLine : Nat) := by
        rw [hsz0]
        have e : ((xs.length : Nat) : Int) * k = ((xs.length * k.toNat : Nat) : Int) := by
          rw [Int.natCast_mul, Int.toNat_of_nonneg (by omega)]
        rw [e]
        omega
      have hS := sizeLine_eq
      have c4 : Builtin.Tuple.tupleTooMany (((its.toArray.size : Nat) : Int) * k) = false := by
        unfold Builtin.Tuple.tupleTooMany
        exact decide_eq_false (by omega)
      refine wpAny_binaryOp_repeat_ref (T := "tuple") (U := "int") (by decide) ⟨_, ho, rfl⟩ (fun s' => typeIs_int s' k t) noFill_tuple_mul F.fills_int_mul F.slot_int_rmul repeat_tuple F.slot_int_index.lookup
        (call_meets F.slot_int_rmul (typeIs_int s k t) F.entry_int_rmul (F.args_int_rmul_2 _ _) (int_rmul_tuple k t l its.toArray n dd sl)
          ⟨ho, rfl, ⟨_, ho, rfl⟩, call_meets F.slot_tuple_mul ⟨_, ho, rfl⟩ F.entry_tuple_mul (F.args_tuple_mul_2 _ _) (tuple_mulW l its.toArray n dd sl k t c0 c1 c2 (by omega) c4 (by rw [size_rep, List.size_toArray]; exact flen)) ⟨ho, ?_⟩⟩)
      rw [size_rep]
      refine ⟨.ref s.heap.objs.size, _, I.laid (t' := s.toks) (o := .tup (List.replicate k.toNat xs).flatten) (fun b ob q => Heap.get?_push_of_some _ q) (Nat.le_refl _) ?_, rfl, q _ (I.hok.fresh (Nat.le_refl _))⟩
      exact ⟨by rw [PyProof.Rows.lm_len_rep_flat, Nat.mul_comm]; exact hz, _, r.rep k.toNat, PyProof.Rows.IsTup.new _ _⟩

theorem op_binF (op : Op) : OpR X (binaryOp (opA op)) (rB X.K C (binF op)) := by
  intro pins s σ H x y v u Q I rx ry h
  obtain ⟨W, p, q, z, dx, dy, hf, g⟩ := h
  cases op with
  | add =>
    cases p <;> cases q <;> simp only [binF, reduceCtorEq] at hf
    case int.int i j =>
      cases hf
      obtain rfl := dx.int
      obtain rfl := dy.int
      exact op_add pins s σ H _ _ v u Q I rx ry ⟨i, j, rfl, rfl, g⟩
    case int.bl i b =>
      cases hf
      obtain rfl := dx.int
      obtain rfl := dy.bl
      refine op_add_ib pins s σ H _ _ v u Q I rx ry ⟨i, b, rfl, rfl, ?_⟩
      cases b
      · exact g
      · exact g
    case seq.seq t xs t' ys =>
      split at hf
      · rename_i hc
        obtain ⟨rfl, hz⟩ := hc
        rw [fits_iff] at hz
        cases hf
        cases t with
        | false =>
          obtain ⟨a, us, rfl, ha, da⟩ := dx.list
          obtain ⟨b, ws, rfl, hb, db⟩ := dy.list
          exact op_cat pins s σ H _ _ v u Q I rx ry ⟨a, b, us, ws, rfl, rfl, ha, hb, by rw [da.len, db.len]; exact hz, fun pp hp => g pp _ hp (da.app db)⟩
        | true =>
          obtain ⟨a, us, rfl, ha, da⟩ := dx.tup
          obtain ⟨b, ws, rfl, hb, db⟩ := dy.tup
          refine op_catA pins s σ H _ _ v u Q I rx ry ⟨a, b, us, ws, rfl, rfl, ha, hb, by rw [da.len, db.len]; exact hz, fun e => ?_, fun _ e => ?_, fun _ _ pp hp => g.1 pp _ hp (da.app db)⟩
          · have dd := da.app db
            rw [e, List.nil_append] at dd
            exact g.2 _ _ hb dd
          · have dd := da.app db
            rw [e, List.append_nil] at dd
            exact g.2 _ _ ha dd
      · cases hf
  | sub =>
    cases p <;> cases q <;> simp only [binF, reduceCtorEq] at hf
    cases hf
    obtain rfl := dx.int
    obtain rfl := dy.int
    exact op_sub pins s σ H _ _ v u Q I rx ry ⟨_, _, rfl, rfl, g⟩
  | mul =>
    cases p <;> cases q <;> simp only [binF, reduceCtorEq] at hf
    case int.int i j =>
      split at hf
      · rename_i hc
        cases hf
        obtain rfl := dx.int
        obtain rfl := dy.int
        rw [small_iff, small_iff] at hc
        exact op_mul pins s σ H _ _ v u Q I rx ry ⟨_, _, rfl, rfl, hc, g⟩
      · cases hf
    case seq.int t xs k =>
      split at hf
      · rename_i hc
        obtain ⟨_, h1, h2, h3⟩ := hc
        rw [fits_iff] at h3
        cases hf
        obtain rfl := dy.int
        cases t with
        | false =>
          obtain ⟨a, us, rfl, ha, da⟩ := dx.list
          exact op_rep pins s σ H _ _ v u Q I rx ry ⟨a, k, us, rfl, rfl, ha, h2, h1, by rw [da.len]; exact h3, fun pp hp => g pp _ hp (da.rep _)⟩
        | true =>
          obtain ⟨a, us, rfl, ha, da⟩ := dx.tup
          refine op_repA pins s σ H _ _ v u Q I rx ry ⟨a, k, us, rfl, rfl, ha, h2, h1, by rw [da.len]; exact h3, fun e => ?_, fun pp hp => g.1 pp _ hp (da.rep _)⟩
          have dd := da.rep k.toNat
          have e2 : (List.replicate k.toNat us).flatten = us := by
            rcases e with e | e
            · subst e
              induction k.toNat with
              | zero => rfl
              | succ m ih => rw [List.replicate_succ, List.flatten_cons, ih]; rfl
            · subst e
              show (List.replicate 1 us).flatten = us
              simp
          rw [e2] at dd
          exact g.2 _ _ ha dd
      · cases hf
  | fdiv =>
    cases p <;> cases q <;> simp only [binF, reduceCtorEq] at hf
    split at hf
    · rename_i hc
      cases hf
      obtain rfl := dx.int
      obtain rfl := dy.int
      exact op_fdivN pins s σ H _ _ v u Q I rx ry ⟨_, _, rfl, rfl, hc, g⟩
    · cases hf
  | mod =>
    cases p <;> cases q <;> simp only [binF, reduceCtorEq] at hf
    split at hf
    · rename_i hc
      cases hf
      obtain rfl := dx.int
      obtain rfl := dy.int
      exact op_modN pins s σ H _ _ v u Q I rx ry ⟨_, _, rfl, rfl, hc, g⟩
    · cases hf
  | pow =>
    cases p <;> cases q <;> simp only [binF, reduceCtorEq] at hf
    split at hf
    · rename_i hc
      cases hf
      obtain rfl := dx.int
      obtain rfl := dy.int
      exact op_pow pins s σ H _ _ v u Q I rx ry ⟨_, _, rfl, rfl, hc, g⟩
    · cases hf
end
end Rm
set_option Elab.async false
set_option linter.all false
set_option maxRecDepth 100000
set_option maxHeartbeats 4000000
/-! sum, max, min of a tuple of whole numbers. -/
namespace ZS
open PySem PySem.Spec L2
section
variable {prog : Program} {w : World} {A : Around} {E : Value → Shared → Prop} {s : Shared} {l : Addr} {xs : Array (Int × Tok)}
theorem iter_intTup {Q : Value → Shared → Prop} (hl : s.heap.IsTuple l (intItems xs))
    (h : ∀ s₂ : Shared, s₂ = { s with heap := s.heap.push { cls := .type "tuple_iterator", data := .fields #[.ref l, .int 0 0] } } →
      (s₂.heap.IsTupleIter s.heap.objs.size l 0 ∧ s₂.heap.IsTuple l (intItems xs)) → (∀ b ∈ [s.heap.objs.size, l], b < s₂.heap.objs.size) → l ≠ s.heap.objs.size → Q (.ref s.heap.objs.size) s₂) :
    wpAny (model prog w) A (pyIter (.ref l)) Q E s := by
  have hlt : l < s.heap.objs.size := by obtain ⟨_, e, _⟩ := hl; exact Heap.lt_size e
  refine wpAny_pyIter_tuple hl (h _ rfl ⟨⟨_, Heap.get?_push_size _ rfl, rfl, rfl⟩, hl.push _⟩ (fun b hb => ?_) (Nat.ne_of_lt hlt))
  show b < (s.heap.push _).objs.size
  rw [Heap.size_push]
  rcases List.mem_cons.mp hb with rfl | hb
  · exact Nat.lt_succ_self _
  · rcases List.mem_cons.mp hb with rfl | hb
    · exact Nat.lt_succ_of_lt hlt
    · cases hb
theorem old_keptT {h' : Heap} (hk : ∀ b o, b ∉ [s.heap.objs.size] → (s.heap.push { cls := .type "tuple_iterator", data := .fields #[.ref l, .int 0 0] }).get? b = some o → h'.get? b = some o) :
    ∀ b o, s.heap.get? b = some o → h'.get? b = some o := fun b o e => by
  refine hk b o (fun hm => ?_) (Heap.get?_push_of_some _ e)
  rcases List.mem_cons.mp hm with e1 | hm
  · exact absurd (e1 ▸ Heap.lt_size e) (Nat.lt_irrefl _)
  · cases hm
theorem sum_intTup {Q : Value → Shared → Prop} (hh : A.handled = none) (hl : s.heap.IsTuple l (intItems xs))
    (h : ∀ h' tk t', (∀ b o, s.heap.get? b = some o → h'.get? b = some o) → Q (.int (preSum (numAt xs) xs.size) t') { s with heap := h', toks := tk }) :
    wpAny (model prog w) A (call (.builtin "sum") [.ref l]) Q E s := by
  refine call_sum_walkG (iter_intTup hl fun s₂ e st hfp hlI => ?_)
  subst e
  refine ⟨_, _, _, _, _, _, numAt xs, rfl, Walks.tuple (A := A.in1) hh _ l hlI (intItems xs), st, hfp, (fun _ _ => intItems_at), fun h' tk t' hk => ?_⟩
  have := h h' tk t' (old_keptT hk)
  simpa [intItems] using this
theorem max_intTup {Q : Value → Shared → Prop} (hh : A.handled = none) (hl : s.heap.IsTuple l (intItems xs)) (hne : 0 < xs.size)
    (h : ∀ v h' tk, (intItems xs)[argBest (fun i j => decide (numAt xs i > numAt xs j)) (xs.size - 1)]? = some v → (∀ b o, s.heap.get? b = some o → h'.get? b = some o) → Q v { s with heap := h', toks := tk }) :
    wpAny (model prog w) A (call (.builtin "max") [.ref l]) Q E s := by
  refine call_max_walk (iter_intTup hl fun s₂ e st hfp hlI => ?_)
  subst e
  refine ⟨_, _, _, _, _, _, _, rfl, Walks.tuple (A := A.in1) hh _ l hlI (intItems xs), st, hfp, by simpa [intItems] using hne, CmpOf.ints_gt (numAt xs) (fun _ _ => intItems_at), fun v h' tk hP hk => ?_⟩
  exact h v h' tk (by simpa [intItems] using hP) (old_keptT hk)
theorem min_intTup {Q : Value → Shared → Prop} (hh : A.handled = none) (hl : s.heap.IsTuple l (intItems xs)) (hne : 0 < xs.size)
    (h : ∀ v h' tk, (intItems xs)[argBest (fun i j => decide (numAt xs i < numAt xs j)) (xs.size - 1)]? = some v → (∀ b o, s.heap.get? b = some o → h'.get? b = some o) → Q v { s with heap := h', toks := tk }) :
    wpAny (model prog w) A (call (.builtin "min") [.ref l]) Q E s := by
  refine call_min_walk (iter_intTup hl fun s₂ e st hfp hlI => ?_)
  subst e
  refine ⟨_, _, _, _, _, _, _, rfl, Walks.tuple (A := A.in1) hh _ l hlI (intItems xs), st, hfp, by simpa [intItems] using hne, CmpOf.ints_lt (numAt xs) (fun _ _ => intItems_at), fun v h' tk hP hk => ?_⟩
  exact h v h' tk (by simpa [intItems] using hP) (old_keptT hk)
end
section
variable {X : Cx}
theorem cr_sumT (hc : X.calm = true) : CallR X (.builtin "sum") (fun vs H Q => ∃ (a : Addr) (ns : List Int), vs = [V.ref a] ∧ SqT X.K H a (ns.map V.int) ∧ Q (.int ns.sum) H) := by
  intro pins s σ H vs us Q I r h
  obtain ⟨a, ns, rfl, hs, q⟩ := h
  obtain ⟨its, rv, hl, _⟩ := I.tuple hs
  rw [Vals.ref1 r]
  obtain ⟨xs, e⟩ := rv.ints.allInts.items
  have hn : numsOf (intItems xs).toList = ns := by rw [← e]; exact rv.ints.numsOf
  rw [nums_intItems] at hn
  have hl' : s.heap.IsTuple a its.toArray := hl
  rw [e] at hl'
  refine sum_intTup (I.ok.hd hc) hl' fun h' tk t' hk => ?_
  have e2 : preSum (numAt xs) xs.size = ns.sum := by
    rw [preSum_eq, List.take_of_length_le (by simp), hn]
  rw [e2]
  exact ⟨.int _, H, I.kept hk, ⟨_, rfl⟩, q⟩
theorem cr_maxT (hc : X.calm = true) : CallR X (.builtin "max") (fun vs H Q => ∃ (a : Addr) (ns : List Int), vs = [V.ref a] ∧ SqT X.K H a (ns.map V.int) ∧ 0 < ns.length ∧ ∀ m, m ∈ ns → (∀ y, y ∈ ns → y ≤ m) → Q (.int m) H) := by
  intro pins s σ H vs us Q I r h
  obtain ⟨a, ns, rfl, hs, hne, q⟩ := h
  obtain ⟨its, rv, hl, _⟩ := I.tuple hs
  rw [Vals.ref1 r]
  obtain ⟨xs, e⟩ := rv.ints.allInts.items
  have hn : numsOf (intItems xs).toList = ns := by rw [← e]; exact rv.ints.numsOf
  rw [nums_intItems] at hn
  have hl' : s.heap.IsTuple a its.toArray := hl
  rw [e] at hl'
  subst hn
  have hsz : 0 < xs.size := by simpa using hne
  refine max_intTup (I.ok.hd hc) hl' hsz fun v h' tk hv hk => ?_
  obtain ⟨t, rfl⟩ := intItems_at hv
  obtain ⟨h1, h2⟩ := argBest_gt (numAt xs) (xs.size - 1)
  refine ⟨.int _, H, I.kept hk, ⟨_, rfl⟩, q _ ?_ fun a ha => ?_⟩
  · rw [numAt_eq]; exact PySem.getD_mem (by rw [List.length_map, Array.length_toList]; omega)
  · obtain ⟨j, hj, rfl⟩ := mem_getD ha
    rw [List.length_map, Array.length_toList] at hj
    rw [← numAt_eq]; exact h2 j (by omega)
theorem cr_minT (hc : X.calm = true) : CallR X (.builtin "min") (fun vs H Q => ∃ (a : Addr) (ns : List Int), vs = [V.ref a] ∧ SqT X.K H a (ns.map V.int) ∧ 0 < ns.length ∧ ∀ m, m ∈ ns → (∀ y, y ∈ ns → m ≤ y) → Q (.int m) H) := by
  intro pins s σ H vs us Q I r h
  obtain ⟨a, ns, rfl, hs, hne, q⟩ := h
  obtain ⟨its, rv, hl, _⟩ := I.tuple hs
  rw [Vals.ref1 r]
  obtain ⟨xs, e⟩ := rv.ints.allInts.items
  have hn : numsOf (intItems xs).toList = ns := by rw [← e]; exact rv.ints.numsOf
  rw [nums_intItems] at hn
  have hl' : s.heap.IsTuple a its.toArray := hl
  rw [e] at hl'
  subst hn
  have hsz : 0 < xs.size := by simpa using hne
  refine min_intTup (I.ok.hd hc) hl' hsz fun v h' tk hv hk => ?_
  obtain ⟨t, rfl⟩ := intItems_at hv
  obtain ⟨h1, h2⟩ := argBest_lt (numAt xs) (xs.size - 1)
  refine ⟨.int _, H, I.kept hk, ⟨_, rfl⟩, q _ ?_ fun a ha => ?_⟩
  · rw [numAt_eq]; exact PySem.getD_mem (by rw [List.length_map, Array.length_toList]; omega)
  · obtain ⟨j, hj, rfl⟩ := mem_getD ha
    rw [List.length_map, Array.length_toList] at hj
    rw [← numAt_eq]; exact h2 j (by omega)
end
end ZS
set_option Elab.async false
set_option linter.all false
set_option maxHeartbeats 4000000
/-! Comparisons, truth, places, slices, built-ins of the small language, by the machine's. -/
namespace Rm
open PySem PySem.Spec L2

section
variable {X : Cx} {C : Nat → Addr}
theorem PT_use {c : Prop} (h : c) : c := h
/-! ### comparisons -/
def rC (K : PySem.W.Frag) (C : Nat → Addr) (op : Cop) : R2 := fun x y H Q => ∃ W p q k, DenB K C W H x p ∧ DenB K C W H y q ∧ cmpF op p q = some k ∧ Q (.bl k) H

theorem eqF_dp {W : Wd} {H : Hp} {x y : V} {p q : PV} {k : Bool} (dx : DenB X.K C W H x p) (dy : DenB X.K C W H y q) (h : eqF p q = some k) :
    Dp X.K H x (dat p) ∧ Dp X.K H y (dat q) ∧ SeqAt.shaped (dat p) = true ∧ SeqAt.shaped (dat q) = true ∧ k = PyData.eqv (dat p) (dat q) := by
  unfold eqF at h
  split at h
  · rename_i hc
    cases h
    obtain ⟨a1, a2⟩ := okEq_shaped hc.1
    obtain ⟨b1, b2⟩ := okEq_shaped hc.2
    exact ⟨dx.dp a1, dy.dp b1, a2, b2, rfl⟩
  · cases h
theorem inF_dp {W : Wd} {H : Hp} {x y : V} {p : PV} {t : Bool} {xs : List PV} {k : Bool} (dx : DenB X.K C W H x p) (dy : DenB X.K C W H y (.seq t xs)) (h : inF p xs = some k) :
    Dp X.K H x (dat p) ∧ Dp X.K H y (dat (.seq t xs)) ∧ SeqAt.shaped (dat p) = true ∧ SeqAt.shaped (dat (.seq t xs)) = true ∧ k = (dats xs).any fun z => PyData.eqv z (dat p) := by
  unfold inF at h
  split at h
  · rename_i hc
    cases h
    obtain ⟨a1, a2⟩ := okEq_shaped hc.1
    have hs : okEq (.seq t xs) = true := by
      have h2 := hc.2
      cases t
      · unfold okEq at h2 ⊢
        simpa [isDat, dat, PyData.depth] using h2
      · exact h2
    obtain ⟨b1, b2⟩ := okEq_shaped hs
    exact ⟨dx.dp a1, dy.dp b1, a2, b2, rfl⟩
  · cases h
theorem op_inT (hu : X.A.units + 65 < cLine) {neg : Bool} : OpR X (compareOp (if neg then .NotIn else .In)) (fun x y H Q => ∃ d ds, Dp X.K H x d ∧ Dp X.K H y (.tuple ds) ∧ SeqAt.shaped d = true ∧ SeqAt.shaped (.tuple ds) = true ∧ Q (.bl (if neg then !ds.any fun z => PyData.eqv z d else ds.any fun z => PyData.eqv z d)) H) := by
  intro pins s σ H x y v u Q I rx ry h
  obtain ⟨d, ds, hd, he, sd, se, q⟩ := h
  obtain ⟨as, r1⟩ := Dp.reads I d x v hd rx
  obtain ⟨bs, r2⟩ := Dp.reads I (.tuple ds) y u he ry
  cases neg
  · exact SeqAt.in_tuple_reads r2 r1 (SeqAt.canLay_of_shaped se) (SeqAt.canLay_of_shaped sd) (PyProof.Rows.room_in_shaped sd hu) ⟨.bl _, H, I, rfl, q⟩
  · exact SeqAt.notIn_tuple_reads r2 r1 (SeqAt.canLay_of_shaped se) (SeqAt.canLay_of_shaped sd) (PyProof.Rows.room_in_shaped sd hu) ⟨.bl _, H, I, rfl, q⟩

theorem op_cmpF (hu : X.A.units + 65 < cLine) (op : Cop) : OpR X (compareOp (copA op)) (rC X.K C op) := by
  intro pins s σ H x y v u Q I rx ry h
  obtain ⟨W, p, q, k, dx, dy, hf, g⟩ := h
  have hu64 : X.A.units + 64 < cLine := by omega
  cases op with
  | eq =>
    obtain ⟨h1, h2, h3, h4, rfl⟩ := eqF_dp dx dy hf
    exact op_eqD hu64 pins s σ H x y v u Q I rx ry ⟨_, _, h1, h2, h3, h4, g⟩
  | ne =>
    simp only [cmpF, Option.map_eq_some_iff] at hf
    obtain ⟨k', hf, rfl⟩ := hf
    obtain ⟨h1, h2, h3, h4, rfl⟩ := eqF_dp dx dy hf
    exact op_neD hu64 pins s σ H x y v u Q I rx ry ⟨_, _, h1, h2, h3, h4, g⟩
  | lt =>
    cases p <;> cases q <;> simp only [cmpF, reduceCtorEq] at hf
    cases hf
    obtain rfl := dx.int
    obtain rfl := dy.int
    exact op_lt pins s σ H _ _ v u Q I rx ry ⟨_, _, rfl, rfl, g⟩
  | le =>
    cases p <;> cases q <;> simp only [cmpF, reduceCtorEq] at hf
    cases hf
    obtain rfl := dx.int
    obtain rfl := dy.int
    exact op_le pins s σ H _ _ v u Q I rx ry ⟨_, _, rfl, rfl, g⟩
  | gt =>
    cases p <;> cases q <;> simp only [cmpF, reduceCtorEq] at hf
    cases hf
    obtain rfl := dx.int
    obtain rfl := dy.int
    exact op_gt pins s σ H _ _ v u Q I rx ry ⟨_, _, rfl, rfl, g⟩
  | ge =>
    cases p <;> cases q <;> simp only [cmpF, reduceCtorEq] at hf
    cases hf
    obtain rfl := dx.int
    obtain rfl := dy.int
    exact op_ge pins s σ H _ _ v u Q I rx ry ⟨_, _, rfl, rfl, g⟩
  | isin =>
    cases q <;> simp only [cmpF, reduceCtorEq] at hf
    rename_i t xs
    obtain ⟨h1, h2, h3, h4, rfl⟩ := inF_dp dx dy hf
    cases t with
    | false =>
      simp only [dat] at h2 h4
      exact op_inD hu pins s σ H x y v u Q I rx ry ⟨_, _, h1, h2, h3, h4, g⟩
    | true =>
      simp only [dat] at h2 h4
      exact op_inT (neg := false) hu pins s σ H x y v u Q I rx ry ⟨_, _, h1, h2, h3, h4, g⟩
  | notin =>
    cases q <;> simp only [cmpF, reduceCtorEq, Option.map_eq_some_iff] at hf
    rename_i t xs
    obtain ⟨k', hf, rfl⟩ := hf
    obtain ⟨h1, h2, h3, h4, rfl⟩ := inF_dp dx dy hf
    cases t with
    | false =>
      simp only [dat] at h2 h4
      exact op_notInD hu pins s σ H x y v u Q I rx ry ⟨_, _, h1, h2, h3, h4, g⟩
    | true =>
      simp only [dat] at h2 h4
      exact op_inT (neg := true) hu pins s σ H x y v u Q I rx ry ⟨_, _, h1, h2, h3, h4, g⟩
  | is_ =>
    simp only [cmpF] at hf
    have key : ∀ b, (q = .non) → (decide (x = .non) = b) → Q (.bl b) H → wpAny (model X.prog X.w) X.A (compareOp .Is v u) (EP X pins σ Q) X.xe s := fun b e1 e2 g' => by
      subst e1
      obtain rfl := dy.non
      exact op_isN pins s σ H x _ v u Q I rx ry ⟨rfl, by rw [e2]; exact g'⟩
    have nn : p ≠ .non → x ≠ .non := fun hp e => by
      subst e
      rcases dx with d | ⟨a, us, xs, _, e, _⟩
      · cases d
        exact hp rfl
      · cases e
    cases p <;> cases q <;> simp only [isF, reduceCtorEq] at hf
    case non.non =>
      cases hf
      obtain rfl := dx.non
      exact key true rfl rfl g
    case bl.bl a b =>
      cases hf
      obtain rfl := dx.bl
      obtain rfl := dy.bl
      exact op_isBl pins s σ H _ _ v u Q I rx ry ⟨_, _, rfl, rfl, g⟩
    all_goals
      cases hf
      exact key false rfl (decide_eq_false (nn (fun z => by cases z))) g
  | isnot =>
    simp only [cmpF] at hf
    have key : ∀ b, (q = .non) → ((!decide (x = .non)) = b) → Q (.bl b) H → wpAny (model X.prog X.w) X.A (compareOp .IsNot v u) (EP X pins σ Q) X.xe s := fun b e1 e2 g' => by
      subst e1
      obtain rfl := dy.non
      exact op_notN pins s σ H x _ v u Q I rx ry ⟨rfl, by rw [e2]; exact g'⟩
    have nn : p ≠ .non → x ≠ .non := fun hp e => by
      subst e
      rcases dx with d | ⟨a, us, xs, _, e, _⟩
      · cases d
        exact hp rfl
      · cases e
    cases p <;> cases q <;> simp only [isF, reduceCtorEq, Option.map_some, Option.map_none] at hf
    case non.non =>
      cases hf
      obtain rfl := dx.non
      exact key false rfl rfl g
    case bl.bl a b =>
      cases hf
      obtain rfl := dx.bl
      obtain rfl := dy.bl
      exact op_notBl pins s σ H _ _ v u Q I rx ry ⟨_, _, rfl, rfl, g⟩
    all_goals
      cases hf
      exact key true rfl (by rw [decide_eq_false (nn (fun z => by cases z))]; rfl) g

/-! ### truth -/
theorem truF_ok {W : Wd} {H : Hp} {x : V} {p : PV} {k : Bool} (d : DenB X.K C W H x p) (h : truF p = some k) : TruV X.K x H k := by
  cases p <;> simp only [truF, reduceCtorEq] at h
  case non =>
    cases h
    obtain rfl := d.non
    rfl
  case bl b =>
    cases h
    obtain rfl := d.bl
    rfl
  case int i =>
    cases h
    obtain rfl := d.int
    rfl
  case str y =>
    split at h
    · rename_i hc
      rw [fits_iff] at hc
      cases h
      obtain rfl := d.str
      refine ⟨hc, ?_⟩
      by_cases e : y.length = 0
      · simp [e]
      · have e2 : ((y.length : Int) != 0) = true := by
          rw [bne_iff_ne]
          omega
        rw [e2, bne_iff_ne]
        exact e
    · cases h
  case seq t xs =>
    cases h
    obtain ⟨a, us, rfl, hs, ds⟩ := d.seqv
    have e : xs.isEmpty = us.isEmpty := by cases ds <;> rfl
    rw [e]
    rcases hs with hs | hs
    · exact .inl ⟨us, hs, rfl⟩
    · exact .inr (.inl ⟨us, hs, rfl⟩)

/-! ### places -/
theorem Dens.at {W : Wd} {H : Hp} {us : List V} {xs : List PV} {i : Int} {p : PV} (d : Dens X.K C W H us xs) (h : atI xs i = some p) : ∃ u, atI us i = some u ∧ Den X.K C W H u p := by
  unfold atI at h ⊢
  rw [d.len]
  cases e : ixN xs.length i with
  | none =>
    rw [e] at h
    cases h
  | some j =>
    rw [e] at h
    exact d.get h
def rX (K : PySem.W.Frag) (C : Nat → Addr) : R2 := fun x y H Q => ∃ W p q z, DenB K C W H x p ∧ DenM K C W H y q ∧ idxF p q = some z ∧ ∀ v, Den K C W H v z → Q v H
theorem ix_idxF : IxR X (rX X.K C) := by
  intro pins s σ H x y v u a b Q I rx ry h hs
  refine ix_seq pins s σ H x y v u a b Q I rx ry ?_ hs
  obtain ⟨W, p, q, z, dx, dy, hf, g⟩ := h
  cases p <;> cases q <;> simp only [idxF, reduceCtorEq] at hf
  rename_i t xs i
  have dy := dy.den rfl
  cases dy
  cases t with
  | false =>
    obtain ⟨a, us, rfl, hs, ds⟩ := dx.list
    obtain ⟨w, h1, h2⟩ := ds.at hf
    exact .inl ⟨a, us, i, w, rfl, rfl, SqL.of hs, h1, g w h2⟩
  | true =>
    obtain ⟨a, us, rfl, hs, ds⟩ := dx.tup
    obtain ⟨w, h1, h2⟩ := ds.at hf
    exact .inr (.inl ⟨a, us, i, w, rfl, rfl, hs, h1, g w h2⟩)

/-! ### slices -/
theorem Dens.cut {W : Wd} {H : Hp} {us : List V} {xs : List PV} (d : Dens X.K C W H us xs) (lo hi : Option Int) :
    Dens X.K C W H (cutV us lo hi) ((xs.drop (HT.sIx xs.length 0 lo)).take (HT.sIx xs.length xs.length hi - HT.sIx xs.length 0 lo)) := by
  unfold cutV
  rw [d.len]
  exact (d.drop _).take _
def rSl (K : PySem.W.Frag) (C : Nat → Addr) : V → Option Int → Option Int → Hp → VK → Prop := fun x lo hi H Q => ∃ W p z, DenB K C W H x p ∧ cutF lo hi p = some z ∧ Gv K C W H z Q
theorem sl_cutF : SlR X (rSl X.K C) := by
  intro pins s σ H x v vl vu lo hi sl Q I rx hs pl pu h
  obtain ⟨W, p, z, dx, hf, g⟩ := h
  cases p <;> simp only [cutF, reduceCtorEq] at hf
  case seq t xs =>
    cases hf
    cases t with
    | false =>
      obtain ⟨a, us, rfl, ha, ds⟩ := dx.list
      exact sl_list pins s σ H _ v vl vu lo hi sl Q I rx hs pl pu ⟨a, us, rfl, SqL.of ha, fun pp hp => g pp _ hp (ds.cut lo hi)⟩
    | true =>
      obtain ⟨a, us, rfl, ha, ds⟩ := dx.tup
      refine sl_tupA pins s σ H _ v vl vu lo hi sl Q I rx hs pl pu ⟨a, us, rfl, ha, fun hw => ?_, fun _ pp hp => g.1 pp _ hp (ds.cut lo hi)⟩
      have dd := ds.cut lo hi
      have e : cutV us lo hi = us := by
        unfold cutV
        rw [hw.1, hw.2, List.drop_zero, Nat.sub_zero, List.take_length]
      rw [e] at dd
      exact g.2 a us ha dd
  case scr xs =>
    cases hf
    obtain ⟨a, us, rfl, ha, ds⟩ := dx.scr
    exact sl_list pins s σ H _ v vl vu lo hi sl Q I rx hs pl pu ⟨a, us, rfl, ha, fun pp hp => g pp _ hp (ds.cut lo hi)⟩

/-! ### built-ins -/
abbrev DensB (K : PySem.W.Frag) (C : Nat → Addr) (W : Wd) (H : Hp) : List V → List PV → Prop := Paired (DenB K C W H)
theorem Rel.derefs {W : Wd} {H : Hp} {σ : St} {fr : Frm} {st : Sto} (R : Rel X.K C W H σ fr st) : ∀ {us : List V} {xs : List PV}, DensM X.K C W H us xs → DensB X.K C W H us (xs.map (Rm.deref fr st))
  | _, _, .nil => .nil
  | _, _, .cons r t => .cons (R.deref r) (Rel.derefs R t)
theorem intL_ok {W : Wd} {H : Hp} : ∀ {xs : List PV} {ns : List Int} {us : List V}, Dens X.K C W H us xs → intL xs = some ns → us = ns.map V.int
  | [], _, _, .nil, h => by
    cases h
    rfl
  | p :: xs, ns, _, .cons r t, h => by
    cases p <;> simp only [intL, reduceCtorEq, Option.map_eq_some_iff] at h
    obtain ⟨ms, h1, rfl⟩ := h
    cases r
    rw [intL_ok t h1]
    rfl
theorem dens_int {W : Wd} {H : Hp} : ∀ ns : List Int, Dens X.K C W H (ns.map V.int) (ns.map PV.int)
  | [] => .nil
  | n :: ns => .cons (.int n) (dens_int ns)
theorem boolL_ok {W : Wd} {H : Hp} : ∀ {xs : List PV} {bs : List Bool} {us : List V}, Dens X.K C W H us xs → boolL xs = some bs → us = bs.map V.bl
  | [], _, _, .nil, h => by
    cases h
    rfl
  | p :: xs, ns, _, .cons r t, h => by
    cases p <;> simp only [boolL, reduceCtorEq, Option.map_eq_some_iff] at h
    obtain ⟨ms, h1, rfl⟩ := h
    cases r
    rw [boolL_ok t h1]
    rfl

theorem insI_perm (x : Int) : ∀ l, (insI x l).Perm (x :: l)
  | [] => .refl _
  | y :: ys => by
    unfold insI
    split
    · exact .refl _
    · exact ((insI_perm x ys).cons y).trans (.swap x y ys)
theorem srtI_perm : ∀ l, (srtI l).Perm l
  | [] => .refl _
  | x :: xs => (insI_perm x _).trans ((srtI_perm xs).cons x)
theorem insI_sort (x : Int) : ∀ l : List Int, l.Pairwise (· ≤ ·) → (insI x l).Pairwise (· ≤ ·)
  | [], _ => by simp [insI]
  | y :: ys, h => by
    unfold insI
    split
    · rename_i hx
      refine List.pairwise_cons.mpr ⟨fun z hz => ?_, h⟩
      rcases List.mem_cons.mp hz with rfl | hz
      · exact hx
      · exact Int.le_trans hx (List.rel_of_pairwise_cons h hz)
    · rename_i hx
      refine List.pairwise_cons.mpr ⟨fun z hz => ?_, insI_sort x ys (List.Pairwise.of_cons h)⟩
      rcases List.mem_cons.mp ((insI_perm x ys).mem_iff.mp hz) with rfl | hz
      · omega
      · exact List.rel_of_pairwise_cons h hz
theorem srtI_sort : ∀ l : List Int, (srtI l).Pairwise (· ≤ ·)
  | [] => .nil
  | x :: xs => insI_sort x _ (srtI_sort xs)
theorem sorted_eq : ∀ {l m : List Int}, l.Perm m → l.Pairwise (· ≤ ·) → m.Pairwise (· ≤ ·) → l = m
  | [], m, h, _, _ => (List.nil_perm.mp h).symm
  | x :: l, [], h, _, _ => by simpa using h.length_eq
  | x :: l, y :: m, h, h1, h2 => by
    have hx : x ∈ y :: m := h.mem_iff.mp List.mem_cons_self
    have hy : y ∈ x :: l := h.mem_iff.mpr List.mem_cons_self
    have e : x = y := by
      rcases List.mem_cons.mp hx with z | z
      · exact z
      · rcases List.mem_cons.mp hy with w | w
        · exact w.symm
        · have a := List.rel_of_pairwise_cons h1 w
          have b := List.rel_of_pairwise_cons h2 z
          omega
    subst e
    rw [sorted_eq (List.Perm.cons_inv h) (List.Pairwise.of_cons h1) (List.Pairwise.of_cons h2)]
def bltV : Blt → Value
  | .len => .builtin "len" | .sum => .builtin "sum" | .all => .builtin "all" | .any => .builtin "any"
  | .int => .type "int" | .str => .type "str" | .bool => .type "bool" | .repr => .builtin "repr" | .tuple => .type "tuple" | .list => .type "list"
  | .sorted => .builtin "sorted" | .abs => .builtin "abs" | .max => .builtin "max" | .min => .builtin "min"
def rBlt (K : PySem.W.Frag) (C : Nat → Addr) (b : Blt) : List V → Hp → VK → Prop := fun vs H Q => ∃ W ps z, DensB K C W H vs ps ∧ bltF b ps = some z ∧ Gv K C W H z Q
theorem okRepr_of {p : PV} (h : okRepr p = true) : isDat p = true ∧ (dat p).depth ≤ 64 ∧ (dat p).showable = true ∧ (dat p).shown.length ≤ sizeLine := by
  unfold okRepr at h
  simp only [Bool.and_eq_true, decide_eq_true_eq] at h
  exact ⟨h.1.1.1, h.1.1.2, h.1.2, h.2⟩
theorem call_reprD (hu : X.A.units + 65 < cLine) (hg : X.A.guards = some []) : CallR X (.builtin "repr") (fun vs H Q => ∃ v d, vs = [v] ∧ Dp X.K H v d ∧ d.canLay0 = true ∧ d.depth ≤ 64 ∧ d.showable = true ∧ d.shown.length ≤ sizeLine ∧ Q (.str d.shown) H) := by
  intro pins s σ H xs us Q I r h
  obtain ⟨v, d, rfl, hd, hl, h1, h2, h3, q⟩ := h
  obtain ⟨u, rfl, ru⟩ := vals1 r
  obtain ⟨as, rd⟩ := Dp.reads I d v u hd ru
  cases hd with
  | non =>
    cases ru
    exact PySem.P.repr_of_none ⟨.str _, H, I.tok _, ⟨_, rfl⟩, q⟩
  | bl b =>
    cases ru
    exact PySem.P.repr_of_bool ⟨.str _, H, I.tok _, ⟨_, rfl⟩, q⟩
  | int i =>
    obtain ⟨t, rfl⟩ := ru
    exact PySem.P.repr_of_int (by simpa [PyData.showable] using h2) ⟨.str _, H, I.tok _, ⟨_, rfl⟩, q⟩
  | str x =>
    obtain ⟨t, rfl⟩ := ru
    exact PySem.P.repr_of_str ⟨.str _, H, I.tok _, ⟨_, rfl⟩, q⟩ (by simpa only [PyData.shown] using h3)
  | lst hs ha =>
    cases ru
    exact PySem.repr_of_reads' rd h2 (PyData.noDict_hsm (PyData.hasDict_of_canLay _ hl)) hg (by omega) (fun _ _ e => e) (fun h' u tk hk => ⟨.str _, H, I.kept (t' := tk) hk, ⟨_, rfl⟩, q⟩) h3
  | tup hs ha =>
    cases ru
    exact PySem.repr_of_reads' rd h2 (PyData.noDict_hsm (PyData.hasDict_of_canLay _ hl)) hg (by omega) (fun _ _ e => e) (fun h' u tk hk => ⟨.str _, H, I.kept (t' := tk) hk, ⟨_, rfl⟩, q⟩) h3

theorem call_bltF (hc : X.calm = true) (hu : X.A.units + 65 < cLine) (hg : X.A.guards = some []) (b : Blt) : CallR X (bltV b) (rBlt X.K C b) := by
  intro pins s σ H vs us Q I r h
  obtain ⟨W, ps, z, ds, hf, g⟩ := h
  rcases ds with _ | ⟨d1, ds⟩
  · cases b <;> simp only [bltF, reduceCtorEq] at hf
  rename_i v p vs' ps'
  rcases ds with _ | ⟨d2, ds⟩
  · cases b
    case len =>
      cases p <;> simp only [bltF, reduceCtorEq] at hf
      case seq t xs =>
        cases hf
        obtain ⟨a, us', rfl, hs, dd⟩ := d1.seqv
        refine call_len_seq pins s σ H _ us Q I r ⟨a, us', rfl, hs, ?_⟩
        rw [dd.len]
        exact g
      case scr xs =>
        cases hf
        obtain ⟨a, us', rfl, hs, dd⟩ := d1.scr
        refine call_len_seq pins s σ H _ us Q I r ⟨a, us', rfl, .inl hs, ?_⟩
        rw [dd.len]
        exact g
    case sum =>
      cases p <;> simp only [bltF, reduceCtorEq] at hf
      rename_i t xs
      simp only [Option.map_eq_some_iff] at hf
      obtain ⟨ns, hn, rfl⟩ := hf
      cases t
      · obtain ⟨a, us', rfl, hs, dd⟩ := d1.list
        obtain rfl := intL_ok dd hn
        exact cr_sum hc pins s σ H _ us Q I r ⟨a, ns, rfl, SqL.of hs, g⟩
      · obtain ⟨a, us', rfl, hs, dd⟩ := d1.tup
        obtain rfl := intL_ok dd hn
        exact ZS.cr_sumT hc pins s σ H _ us Q I r ⟨a, ns, rfl, hs, g⟩
    case all =>
      cases p <;> simp only [bltF, reduceCtorEq] at hf
      rename_i t xs
      cases t <;> simp only [reduceCtorEq, Option.map_eq_some_iff] at hf
      obtain ⟨ns, hn, rfl⟩ := hf
      obtain ⟨a, us', rfl, hs, dd⟩ := d1.list
      obtain rfl := boolL_ok dd hn
      exact cr_all hc pins s σ H _ us Q I r ⟨a, ns, rfl, SqL.of hs, g⟩
    case any =>
      cases p <;> simp only [bltF, reduceCtorEq] at hf
      rename_i t xs
      cases t <;> simp only [reduceCtorEq, Option.map_eq_some_iff] at hf
      obtain ⟨ns, hn, rfl⟩ := hf
      obtain ⟨a, us', rfl, hs, dd⟩ := d1.list
      obtain rfl := boolL_ok dd hn
      exact cr_any hc pins s σ H _ us Q I r ⟨a, ns, rfl, SqL.of hs, g⟩
    case int =>
      cases p <;> simp only [bltF, reduceCtorEq] at hf
      case int i =>
        cases hf
        obtain rfl := d1.int
        exact call_int1 pins s σ H _ us Q I r (.inl ⟨_, rfl, g⟩)
      case bl b =>
        cases hf
        obtain rfl := d1.bl
        exact call_int1 pins s σ H _ us Q I r (.inr ⟨_, rfl, g⟩)
    case str =>
      cases p <;> simp only [bltF, reduceCtorEq] at hf
      split at hf
      · rename_i hh
        cases hf
        obtain rfl := d1.int
        exact call_str_int pins s σ H _ us Q I r ⟨_, rfl, hh, g⟩
      · cases hf
    case bool =>
      cases p <;> simp only [bltF, reduceCtorEq] at hf
      cases hf
      obtain rfl := d1.bl
      exact call_bool1 pins s σ H _ us Q I r (.inr ⟨_, rfl, g⟩)
    case repr =>
      simp only [bltF] at hf
      split at hf
      · rename_i hh
        cases hf
        obtain ⟨h1, h2, h3, h4⟩ := okRepr_of hh
        exact call_reprD hu hg pins s σ H _ us Q I r ⟨v, dat p, rfl, d1.dp h1, isDat_can p h1, h2, h3, h4, g⟩
      · cases hf
    case tuple =>
      cases p <;> simp only [bltF, reduceCtorEq] at hf
      rename_i t xs
      cases hf
      cases t with
      | false =>
        obtain ⟨a, us', rfl, hs, dd⟩ := d1.list
        exact call_tuple_of pins s σ H _ us Q I r ⟨a, us', rfl, .inl ⟨SqL.of hs, fun l hl => g.1 l us' hl dd⟩⟩
      | true =>
        obtain ⟨a, us', rfl, hs, dd⟩ := d1.tup
        exact call_tuple_of pins s σ H _ us Q I r ⟨a, us', rfl, .inr ⟨hs, g.2 a us' hs dd⟩⟩
    case list =>
      cases p <;> simp only [bltF, reduceCtorEq] at hf
      rename_i t xs
      cases hf
      obtain ⟨a, us', rfl, hs, dd⟩ := d1.seqv
      exact call_list_of pins s σ H _ us Q I r ⟨a, us', rfl, hs, fun l hl => g l us' hl dd⟩
    case sorted =>
      cases p <;> simp only [bltF, reduceCtorEq] at hf
      rename_i t xs
      cases t <;> simp only [reduceCtorEq] at hf
      simp only [sortF, Option.bind_eq_some_iff] at hf
      obtain ⟨ns, hn, hf⟩ := hf
      split at hf
      · rename_i hlt
        cases hf
        obtain ⟨a, us', rfl, hs, dd⟩ := d1.list
        obtain rfl := intL_ok dd hn
        refine cr_sorted pins s σ H _ us Q I r ⟨a, ns, rfl, SqL.of hs, hlt, fun ns' p hp hw hH => ?_⟩
        rw [sorted_eq (hp.trans (srtI_perm ns).symm) hw (srtI_sort ns)]
        exact g p _ hH (dens_int (srtI ns))
      · cases hf
    case abs =>
      cases p <;> simp only [bltF, reduceCtorEq] at hf
      cases hf
      obtain rfl := d1.int
      exact call_abs pins s σ H _ us Q I r ⟨_, rfl, g⟩
    case max =>
      cases p <;> simp only [bltF, reduceCtorEq] at hf
      rename_i t xs
      simp only [Option.bind_eq_some_iff, Option.map_eq_some_iff] at hf
      obtain ⟨ns, hn, m, hm, rfl⟩ := hf
      obtain ⟨m1, m2⟩ := List.max?_eq_some_iff.mp hm
      have h0 : 0 < ns.length := List.length_pos_of_mem m1
      cases t
      · obtain ⟨a, us', rfl, hs, dd⟩ := d1.list
        obtain rfl := intL_ok dd hn
        refine cr_max hc pins s σ H _ us Q I r ⟨a, ns, rfl, SqL.of hs, h0, fun k hk hq => ?_⟩
        have := m2 k hk
        have := hq m m1
        obtain rfl : k = m := by omega
        exact g
      · obtain ⟨a, us', rfl, hs, dd⟩ := d1.tup
        obtain rfl := intL_ok dd hn
        refine ZS.cr_maxT hc pins s σ H _ us Q I r ⟨a, ns, rfl, hs, h0, fun k hk hq => ?_⟩
        have := m2 k hk
        have := hq m m1
        obtain rfl : k = m := by omega
        exact g
    case min =>
      cases p <;> simp only [bltF, reduceCtorEq] at hf
      rename_i t xs
      simp only [Option.bind_eq_some_iff, Option.map_eq_some_iff] at hf
      obtain ⟨ns, hn, m, hm, rfl⟩ := hf
      obtain ⟨m1, m2⟩ := List.min?_eq_some_iff.mp hm
      have h0 : 0 < ns.length := List.length_pos_of_mem m1
      cases t
      · obtain ⟨a, us', rfl, hs, dd⟩ := d1.list
        obtain rfl := intL_ok dd hn
        refine cr_min hc pins s σ H _ us Q I r ⟨a, ns, rfl, SqL.of hs, h0, fun k hk hq => ?_⟩
        have := m2 k hk
        have := hq m m1
        obtain rfl : k = m := by omega
        exact g
      · obtain ⟨a, us', rfl, hs, dd⟩ := d1.tup
        obtain rfl := intL_ok dd hn
        refine ZS.cr_minT hc pins s σ H _ us Q I r ⟨a, ns, rfl, hs, h0, fun k hk hq => ?_⟩
        have := m2 k hk
        have := hq m m1
        obtain rfl : k = m := by omega
        exact g
  rename_i v2 p2 vs2 ps2
  rcases ds with _ | ⟨d3, ds⟩
  · cases b <;> simp only [bltF, reduceCtorEq] at hf
    case max =>
      cases p <;> cases p2 <;> simp only [bltF, reduceCtorEq] at hf
      cases hf
      obtain rfl := d1.int
      obtain rfl := d2.int
      exact call_max2 hc pins s σ H _ us Q I r ⟨_, _, rfl, g⟩
    case min =>
      cases p <;> cases p2 <;> simp only [bltF, reduceCtorEq] at hf
      cases hf
      obtain rfl := d1.int
      obtain rfl := d2.int
      exact call_min2 hc pins s σ H _ us Q I r ⟨_, _, rfl, g⟩
  · cases b <;> simp only [bltF, reduceCtorEq] at hf
    all_goals (cases p <;> cases p2 <;> simp only [bltF, reduceCtorEq] at hf)
end
end Rm
set_option Elab.async false
set_option linter.all false
set_option maxHeartbeats 4000000
/-! Where one stands; calls of the text's own; which term stands for which expression. -/
namespace Rm
open PySem PySem.Spec L2

/-- what the text has at its top: defs (name, how many parameters by place, names of the others), constants, classes of errors -/
structure Gtab where
  fs : List (Str × Nat × List Str)
  gl : List (Str × PV)
  cl : List Str
  rs : List Nat := []
  /-- methods: which def, of which own class, its name -/
  ms : List (Nat × Nat × Str) := []
  /-- own classes -/
  oc : List Str := []
def isM (T : Gtab) (j : Nat) : Bool := T.ms.any fun m => m.1 == j
structure Ctx where
  T : Gtab
  N : List Str
  sc : Scope
  fn : Str → Bool

/-- a def keeps its promise, called with np values by place and the others by name -/
def CallOk (P : Program) (w : World) (K : PySem.W.Frag) (mg : Str → Option Value) (base : Heap) (n np : Nat) (ks : List Str) (f : Addr) (sp : Sp) : Prop :=
  ∀ (A : Around) (outer : List Env) (s : Shared) (H : Hp) (us ws : List Value) (vs : List V) (Q : VK) (E : XK), Room n A → A.guards = some [] → Env0 P w K mg base A outer s H → us.length = np → ws.length = ks.length →
    Vals vs (us ++ ws) → sp vs H Q E → codeAny (model P w) A (.call (.ref f) ⟨us, ks.zip ws⟩) (CR (L2.CX P w) outer P w H s Q E) s
/-- the promise: what the small language's run says -/
def spF (K : PySem.W.Frag) (C : Nat → Addr) (r : List PV → Sto → Out PV) : Sp := fun vs H Q E => ∃ W st ps, RelS K C W H st ∧ (W.o = fun _ => none) ∧ Dens K C W H vs ps ∧
  Post (r ps st) (fun p st' => ∀ W' H' v, Ext W H W' H' → (W'.o = fun _ => none) → RelS K C W' H' st' → Den K C W' H' v p → Q v H')
    (fun c p st' => ∀ W' H' cls d, Ext W H W' H' → (W'.o = fun _ => none) → RelS K C W' H' st' → ExcV C c p cls d → E cls d H')

def bltNames : List Str := ["len", "sum", "all", "any", "int", "str", "bool", "repr", "tuple", "list", "sorted", "abs", "max", "min", "range", "enumerate", "zip", "isinstance", "dict", "set", "reversed", "ValueError"]
/-- what the class of an error is, to isinstance and to except -/
structure ClsOk (K : PySem.W.Frag) (C : Nat → Addr) (c : Nat) (anc : List Nat) (m : Nat) : Prop where
  ex : ExcC K (C c)
  no : ∀ T ∈ (["NoneType", "bool", "int", "str", "list", "tuple"] : List String), PySem.W.kitOne K (.type T) (.ref (C c)) = some false
  sub : ∀ d, d < m → PySem.W.kitOne K (.ref (C c)) (.ref (C d)) = some (anc.contains d)
  exm : ∀ d, d < m → PySem.W.exmOne K (.ref (C c)) (.ref (C d)) = some (anc.contains d)
  noB : ∀ T ∈ (["bool", "int", "str", "list", "tuple"] : List String), PySem.W.kitOne K (.ref (C c)) (.type T) = some false
  vE : PySem.W.kitOne K (.ref (C c)) (.type "ValueError") = some true
/-- a class whose errors are made with texts -/
structure RaiseOk (K : PySem.W.Frag) (D : Addr) : Prop where
  ex : ∃ B newId initId bmB, ExcBaseFacts B newId initId bmB ∧ PySem.W.excIn K D bmB newId = true
  kp : PySem.W.keepIn K (.ref D) = true
  sb : PySem.W.subIn K (.ref D) (.type "BaseException") = some true
  ty : PySem.W.typeIn K (.ref D) = some (.type "type")
/-- an own class whose instances are told -/
structure OwnOk (K : PySem.W.Frag) (C : Nat → Addr) (c m n : Nat) : Prop where
  cls : Cls K (C (1000 + c))
  flds : ∀ f ∈ fldsOf c, NoAttr K (C (1000 + c)) f
  ca : PySem.W.findIn K (.ref (C (1000 + c))) "__class__" = some (some (.builtin "object.__class__"))
  cn : PySem.W.specialIn K (.builtin "object.__class__") "__get__" = some (some (.builtin "getset_descriptor.__get__"))
  ct : PySem.W.takesIn K (.builtin "object.__class__") = some true
  cm : PySem.W.mroIn K (C (1000 + c)) (.type "object") = some true
  bt : ∀ T ∈ (["bool", "int", "str", "list", "tuple", "ValueError"] : List String), PySem.W.kitOne K (.ref (C (1000 + c))) (.type T) = some false
  tb : ∀ T ∈ (["NoneType", "bool", "int", "str", "list", "tuple"] : List String), PySem.W.kitOne K (.type T) (.ref (C (1000 + c))) = some false
  oo : ∀ d, d < n → PySem.W.kitOne K (.ref (C (1000 + c))) (.ref (C (1000 + d))) = some (c == d)
  oe : ∀ d, d < m → PySem.W.kitOne K (.ref (C (1000 + c))) (.ref (C d)) = some false
  eo : ∀ d, d < m → PySem.W.kitOne K (.ref (C d)) (.ref (C (1000 + c))) = some false
structure Glob (T : Gtab) (C : Nat → Addr) (S : Sig) (n : Nat) (P : Program) (w : World) (K : PySem.W.Frag) (mg : Str → Option Value) (base : Heap) : Prop where
  fns : ∀ (j : Nat) (nm : Str) (np : Nat) (ks : List Str), T.fs[j]? = some (nm, np, ks) → isM T j = false → ∃ f, mg nm = some (.ref f) ∧ PySem.W.keepIn K (.ref f) = true ∧ CallOk P w K mg base n np ks f (spF K C (S.call j))
  blt : ∀ x ∈ bltNames, mg x = none
  gls : ∀ (k : Nat) (nm : Str) (p : PV), T.gl[k]? = some (nm, p) → S.glb[k]? = some p ∧ ∃ u v, mg nm = some u ∧ RelV v u ∧ ∀ W H, Den K C W H v p
  cls : ∀ (c : Nat) (nm : Str), T.cl[c]? = some nm → mg nm = some (.ref (C c)) ∧ ∃ l, S.anc[c]? = some l ∧ ClsOk K C c l T.cl.length
  ancl : S.anc.length = T.cl.length
  ownl : S.own = T.oc.length
  mth : ∀ (j c : Nat) (m : Str), (j, c, m) ∈ T.ms → ∃ np f, T.fs[j]? = some (m, np, []) ∧ c < T.oc.length ∧ (fldsOf c).contains m = false ∧ Meth K (C (1000 + c)) m f ∧ CallOk P w K mg base n np [] f (spF K C (S.call j))
  own : ∀ (c : Nat) (nm : Str), T.oc[c]? = some nm → mg nm = some (.ref (C (1000 + c))) ∧ OwnOk K C c T.cl.length T.oc.length
  rai : ∀ c, c ∈ T.rs → c < T.cl.length ∧ RaiseOk K (C c)

structure Fit (c : Ctx) (C : Nat → Addr) (S : Sig) (n : Nat) (Wx : WX) (X : Cx) : Prop where
  N : X.N = c.N
  sc : X.env.scope = c.sc
  fn : ∀ x, c.fn x = true → X.fn x = true
  calm : X.calm = true
  nd : c.N.Nodup
  tk : Takes X Wx
  gd : X.A.guards = some []
  rm : Room n X.A
  G : Glob c.T C S n X.prog X.w X.K X.mg X.base

/-! ### names -/
def isVis (sc : Scope) (x : Str) : Bool := match sc.names.lookup x with
  | some .local | some .cell | some .free => true
  | _ => false
def isGl (sc : Scope) (x : Str) : Bool := match sc.names.lookup x with
  | some .globalImplicit => true
  | _ => false
def plainN (x : Str) : Bool := !(x == ("__debug__" : Str)) && !(x == ("__classdict__" : Str)) && !(x == ("__name__" : Str))
theorem isVis_ok {sc : Scope} {x : Str} (h : isVis sc x = true) : Vis sc x := by
  unfold isVis at h
  split at h
  · exact .inl (by assumption)
  · exact .inr (.inl (by assumption))
  · exact .inr (.inr (by assumption))
  · cases h
theorem plainN_ok {x : Str} (h : plainN x = true) : (x == ("__debug__" : Str)) = false ∧ (x == ("__classdict__" : Str)) = false ∧ x ≠ "__name__" := by
  unfold plainN at h
  simp only [Bool.and_eq_true, Bool.not_eq_true'] at h
  exact ⟨h.1.1, h.1.2, by simpa using h.2⟩
theorem isGl_ok {X : Cx} {c : Ctx} {x : Str} (e : X.env.scope = c.sc) (h : isGl c.sc x = true) : Gl X x := by
  unfold isGl at h
  show X.env.scope.names.lookup x = some .globalImplicit
  rw [e]
  split at h
  · assumption
  · cases h

/-! ### plain argument lists -/
def noStar : Expr → Bool
  | .Starred _ _ => false
  | _ => true
theorem star_cons {e : Expr} {es : List Expr} {env : Env} (h : noStar e = true) : starEach (e :: es) env = (false, eval e env) :: starEach es env := by
  cases e <;> first | rfl | cases h
theorem star_any {pos : Pos} {env : Env} : ∀ {es : List Expr}, es.all noStar = true → (backTo pos (starEach es env)).any (·.1) = false
  | [], _ => rfl
  | e :: es, h => by
    simp only [List.all_cons, Bool.and_eq_true] at h
    rw [star_cons h.1]
    show (false || (backTo pos (starEach es env)).any (·.1)) = false
    rw [star_any h.2]
    rfl
def kwNames : List Keyword → List Str
  | [] => []
  | k :: ks => (k.arg.getD "") :: kwNames ks
theorem kw_names {pos : Pos} {env : Env} : ∀ {ks : List Keyword}, (ks.all fun k => k.arg.isSome) = true → (backToKw pos (keywordEach ks env)).all (·.1.isSome) = true ∧ (backToKw pos (keywordEach ks env)).filterMap (·.1) = kwNames ks ∧ (backToKw pos (keywordEach ks env)).any (·.1.isNone) = false
  | [], _ => ⟨rfl, rfl, rfl⟩
  | ⟨some nm, e, p⟩ :: ks, h => by
    simp only [List.all_cons, Bool.and_eq_true] at h
    obtain ⟨h1, h2, h3⟩ := kw_names (pos := pos) (env := env) h.2
    refine ⟨?_, ?_, ?_⟩
    · show (true && (backToKw pos (keywordEach ks env)).all (·.1.isSome)) = true
      rw [h1]
      rfl
    · show nm :: (backToKw pos (keywordEach ks env)).filterMap (·.1) = nm :: kwNames ks
      rw [h2]
    · show (false || (backToKw pos (keywordEach ks env)).any (·.1.isNone)) = false
      rw [h3]
      rfl
  | ⟨none, e, p⟩ :: ks, h => by
    simp only [List.all_cons, Bool.and_eq_true] at h
    cases h.1

section
variable {K : PySem.W.Frag} {C : Nat → Addr} {Wx : WX} {S : Sig} {X : Cx} {n : Nat}
/-! ### a call -/
theorem Den.withO {W : Wd} {o : Nat → Option Addr} {H : Hp} {v : V} {p : PV} (d : Den K C W H v p) : Den K C (W.withO o) H v p := d.mono (W := W) (W' := W.withO o) (fun _ h => h) (fun _ _ h => h) fun _ _ h _ => h
theorem Dens.withO {W : Wd} {o : Nat → Option Addr} {H : Hp} {v : List V} {p : List PV} (d : Dens K C W H v p) : Dens K C (W.withO o) H v p := d.mono (W := W) (W' := W.withO o) (fun _ h => h) (fun _ _ h => h) fun _ _ h _ => h
/-- fewer of the slots' own lists -/
theorem RelS.less {W : Wd} {o : Nat → Option Addr} {H : Hp} {st : Sto} (s : RelS K C W H st) (h : ∀ i a, o i = some a → W.o i = some a) : RelS K C (W.withO o) H st :=
  ⟨⟨s.sep.rl, fun i a e => s.sep.ol i a (h i a e), s.sep.Fs, s.sep.Fr, fun a i f e => s.sep.Fo a i f (h i a e), fun n i a e1 e2 => s.sep.ro n i a e1 (h i a e2), s.sep.rr, fun i j a e1 e2 => s.sep.oo i j a (h i a e1) (h j a e2)⟩, s.sz, fun n xs e => by
    obtain ⟨a, us, h1, h2, h3⟩ := s.str n xs e
    exact ⟨a, us, h1, h2, h3.withO⟩, s.rn⟩
theorem RelS.bare {W : Wd} {H : Hp} {st : Sto} (s : RelS K C W H st) : RelS K C (W.withO fun _ => none) H st := s.less fun _ _ e => (nomatch e)
theorem Ext.back {W W1 : Wd} {o : Nat → Option Addr} {H H1 : Hp} (x : Ext (W.withO o) H W1 H1) : Ext W H (W1.withO W.o) H1 := ⟨x.kp, x.th, x.F, x.Fn, x.r, x.rn⟩
theorem RelS.back {W W1 : Wd} {o : Nat → Option Addr} {H H1 : Hp} {st : Sto} (S : Sep W H) (x : Ext (W.withO o) H W1 H1) (s : RelS K C W1 H1 st) : RelS K C (W1.withO W.o) H1 st := by
  refine ⟨⟨s.sep.rl, fun i a e => ?_, s.sep.Fs, s.sep.Fr, fun a i f e => ?_, fun m i a e1 e2 => ?_, s.sep.rr, S.oo⟩, s.sz, fun m xs e => ?_, s.rn⟩
  · obtain ⟨us, h⟩ := S.ol i a e
    exact ⟨us, x.kp a _ h fun m z => S.ro m i a z e⟩
  · obtain ⟨us, h⟩ := S.ol i a e
    rcases x.Fn a f with z | z
    · exact S.Fo a i z e
    · rw [h] at z
      cases z
  · obtain ⟨us, h⟩ := S.ol i a e2
    rcases x.rn m a e1 with z | z
    · exact S.ro m i a z e2
    · rw [h] at z
      cases z
  · obtain ⟨a, us, h1, h2, h3⟩ := s.str m xs e
    exact ⟨a, us, h1, h2, h3.withO⟩
theorem Vals.append {xs ys : List V} {us ws : List Value} (a : Vals xs us) (b : Vals ys ws) : Vals (xs ++ ys) (us ++ ws) := L2.Vals.append a b

/-- the called def runs -/
theorem run_callG {np : Nat} {ks : List Str} {f : Addr} {r : List PV → Sto → Out PV} {pins : List (Addr × Obj)} {σ : St} {H : Hp} {s : Shared} {Q : VK} {us ws : List Value} {vs : List V} {W : Wd} {fr : Frm} {st : Sto} {ps : List PV}
    (F : CallOk X.prog X.w X.K X.mg X.base n np ks f (spF X.K C r)) (hr : Room n X.A) (hg : X.A.guards = some []) (tk : Takes X Wx) (I : Inv X pins σ H s) (h1 : us.length = np) (h2 : ws.length = ks.length) (rv : Vals vs (us ++ ws))
    (R : Rel X.K C W H σ fr st) (d : Dens X.K C W H vs ps) (h : Post (r ps st) (fun p st' => EndOk X.K C W H σ fr st' p Q) (EndX X.K C Wx W H σ fr)) :
    wpAny (model X.prog X.w) X.A (call (.ref f) us (ks.zip ws)) (EP X pins σ Q) X.xe s := by
  refine wpAny_call (codeAny_mono (F X.A X.stack s H us ws vs Q (fun cls d H' => Wx cls d σ H') hr hg I.env0 h1 h2 rv ?_) fun r s' hq => ?_)
  · refine ⟨(W.withO fun _ => none), st, ps, R.s.bare, rfl, d.withO, h.imp (fun p st' h W' H' v x o S D => ?_) fun c p st' h W' H' cls d x o S e => ?_⟩
    · have x2 := x.back
      exact h (W'.withO W.o) H' v x2 rfl (R.ext x2 rfl (S.back R.s.sep x)) (.inl D.withO)
    · have x2 := x.back
      exact h (W'.withO W.o) H' cls d x2 rfl (R.ext x2 rfl (S.back R.s.sep x)) e
  · cases r with
    | error e => exact tk e s' (XE.of_call I (fun cls d H' h => h) hq)
    | ok fl =>
      cases fl with
      | ret u => exact I.after hq
      | next => exact False.elim hq
      | brk => exact False.elim hq
      | cont => exact False.elim hq
theorem Vals.len {xs : List V} {us : List Value} (r : Vals xs us) : xs.length = us.length := L2.Vals.length r

theorem pe_callG {x : Str} {p pos : Pos} {args : List Expr} {kws : List Keyword} {j np : Nat} {f : Addr} {l k : E} (hr : Room n X.A) (hg : X.A.guards = some []) (tk : Takes X Wx) (gl : Gl X x) (hdb : (x == ("__debug__" : Str)) = false) (hm : X.mg x = some (.ref f)) (hk : PySem.W.keepIn X.K (.ref f) = true)
    (F : CallOk X.prog X.w X.K X.mg X.base n np (kwNames kws) f (spF X.K C (S.call j))) (ha : PA X args (tL X.K C Wx (evL S l))) (hw : PK X kws (tL X.K C Wx (evL S k))) (ns : args.all noStar = true) (kn : (kws.all fun k => k.arg.isSome) = true) (hnp : args.length = np)
    (hlen : ∀ fr st xs st', evL S l fr st = .ok xs st' → xs.length = args.length) (hlk : ∀ fr st xs st', evL S k fr st = .ok xs st' → xs.length = kws.length) (h0 : args = [] → l = .nil ∧ kws = []) (h1 : kws = [] → k = .nil) : PE X (.Call (.Name x p) args kws pos) (tE X.K C Wx (evE S (.call j l k))) := by
  have step : ∀ {σ : St} {H : Hp} {Q : VK}, tE X.K C Wx (evE S (.call j l k)) σ H Q → tL X.K C Wx (evL S l) σ H fun vs H1 => vs.length = args.length ∧ tL X.K C Wx (evL S k) σ H1 fun zs H2 => zs.length = kws.length ∧
      ∃ W fr st ps, Rel X.K C W H2 σ fr st ∧ Dens X.K C W H2 (vs ++ zs) ps ∧ Post (S.call j ps st) (fun p st' => EndOk X.K C W H2 σ fr st' p Q) (EndX X.K C Wx W H2 σ fr) := by
    intro σ H Q h
    obtain ⟨W, fr, st, R, h⟩ := h
    simp only [evE] at h
    refine ⟨W, fr, st, R, ?_⟩
    have h' := h.bind
    cases e1 : evL S l fr st with
    | bad => rw [e1] at h'; exact h'.elim
    | exc c p st1 => rw [e1] at h'; exact h'
    | ok xs st1 =>
      rw [e1] at h'
      intro W1 H1 vs x1 o1 R1 D1
      refine ⟨?_, ?_⟩
      · have : vs.length = xs.length := Paired.length D1
        rw [this, hlen fr st xs st1 e1]
      refine ⟨W1, fr, st1, R1, ?_⟩
      have h2 := Post.bind h'
      cases e2 : evL S k fr st1 with
      | bad => rw [e2] at h2; exact h2.elim
      | exc c p st2 => rw [e2] at h2; exact EndX.shift h2 x1 o1
      | ok ys st2 =>
        rw [e2] at h2
        intro W2 H2 zs x2 o2 R2 D2
        refine ⟨?_, ?_⟩
        · have : zs.length = ys.length := Paired.length D2
          rw [this, hlk fr st1 ys st2 e2]
        have h3 : Post (if keepAll (xs ++ ys) = true then S.call j (xs ++ ys) st2 else .bad) (fun p st' => EndOk X.K C W H σ fr st' p Q) (EndX X.K C Wx W H σ fr) := h2
        split at h3
        · rename_i hkp
          have hxy : keepAll xs = true ∧ keepAll ys = true := by
            unfold keepAll at hkp ⊢
            rw [List.all_append, Bool.and_eq_true] at hkp
            exact hkp
          refine ⟨W2, fr, st2, xs ++ ys, R2, ?_, h3.imp (fun p st' z => EndOk.shift z (x1.trans x2) (o2.trans o1)) fun c p st' z => EndX.shift z (x1.trans x2) (o2.trans o1)⟩
          exact ((D1.ext R1.s.sep x2 o2).dens hxy.1).app (D2.dens hxy.2)
        · exact h3.elim
  refine ⟨fun pins s σ H Q I h => ?_⟩
  refine wpAny_Call_Name_kw (ld_glob I gl hm ?_ hdb)
  obtain ⟨k1, k2, k3⟩ := kw_names (pos := pos) (env := X.env) kn
  have hst := step h
  have fin : ∀ {us ws : List Value} {vs zs : List V} {H2 : Hp} {s2 : Shared}, Inv X pins σ H2 s2 → Vals vs us → Vals zs ws → vs.length = args.length → zs.length = kws.length →
      (∃ W fr st ps, Rel X.K C W H2 σ fr st ∧ Dens X.K C W H2 (vs ++ zs) ps ∧ Post (S.call j ps st) (fun p st' => EndOk X.K C W H2 σ fr st' p Q) (EndX X.K C Wx W H2 σ fr)) →
      wpAny (model X.prog X.w) X.A (call (.ref f) us ((kwNames kws).zip ws)) (EP X pins σ Q) X.xe s2 := by
    intro us ws vs zs H2 s2 I2 r1 r2 l1 l2 ⟨W, fr, st, ps, R, D, hp⟩
    have kl : (kwNames kws).length = kws.length := by
      clear k1 k2 k3 kn hw F hst step hlk h l2 h0 h1
      induction kws with
      | nil => rfl
      | cons a b ih => exact congrArg Nat.succ ih
    exact run_callG F hr hg tk I2 (by rw [← r1.length, l1, hnp]) (by rw [← r2.length, l2, kl]) (r1.append r2) R D hp
  have noK : ∀ {σ : St} {H : Hp} {R : List V → Hp → Prop}, kws = [] → tL X.K C Wx (evL S k) σ H R → ∃ W fr st, Rel X.K C W H σ fr st ∧ EndL X.K C W H σ fr st [] R := fun e h => by
    obtain ⟨W, fr, st, R, h⟩ := h
    rw [h1 e] at h
    simp only [evL] at h
    exact ⟨W, fr, st, R, h⟩
  cases args with
  | nil =>
    obtain ⟨rfl, rfl⟩ := h0 rfl
    refine PySem.W.callWith_K0 I.kIn hk ?_
    obtain ⟨W, fr, st, R, hst⟩ := hst
    simp only [evL] at hst
    obtain ⟨_, hst⟩ := (show EndL X.K C W H σ fr st [] _ from hst) W H [] (.refl _ _) rfl R .nil
    obtain ⟨W, fr, st, R, hst⟩ := noK rfl hst
    obtain ⟨_, hst⟩ := hst W H [] (.refl _ _) rfl R .nil
    exact fin (us := []) (ws := []) I .nil .nil rfl rfl hst
  | cons e es =>
    have nse : noStar e = true ∧ es.all noStar = true := by simpa using ns
    by_cases hkw : kws = []
    · subst hkw
      refine PySem.W.callWith_K (h₀ := X.base) I.ok.mod.kin hk (thn (ha.run pos pins s σ H _ I hst) fun us s1 ⟨vs, H1, I1, r, l1, q⟩ => ⟨I1.kIn, ?_⟩) (star_cons nse.1) (star_any nse.2)
      obtain ⟨W, fr, st, R, q⟩ := noK rfl q
      obtain ⟨_, q⟩ := q W H1 [] (.refl _ _) rfl R .nil
      exact fin (ws := []) I1 r .nil l1 rfl q
    · refine PySem.W.callWith_KW (h₀ := X.base) I.ok.mod.kin hk k1 (thn (ha.run pos pins s σ H _ I hst) fun us s1 ⟨vs, H1, I1, r, l1, q⟩ => ?_) (by rw [star_any ns, k3]; rfl) (star_cons nse.1)
      refine thn (hw.run pos pins s1 σ H1 _ I1 q) fun ws s2 ⟨zs, H2, I2, rz, l2, q2⟩ => ⟨I2.kIn, ?_⟩
      rw [k2]
      exact fin I2 r rz l1 l2 q2
end
end Rm
set_option Elab.async false
set_option linter.all false
set_option maxRecDepth 100000
set_option maxHeartbeats 4000000
/-! zip of two lists or tuples, either kind in either place; strict or not. -/
namespace ZS
open PySem
open PySem.Sem (wp)
/-- an iterator of a list (false), of a tuple (true) -/
def ItAt (t : Bool) (h : Heap) (i l : Addr) (k : Nat) : Prop := match t with | true => h.IsTupleIter i l k | false => h.IsListIter i l k
def SqAt (t : Bool) (h : Heap) (l : Addr) (xs : Array Value) : Prop := match t with | true => h.IsTuple l xs | false => h.IsList l xs
theorem ItAt.at {t : Bool} {h h' : Heap} {a l : Addr} {i : Nat} (x : ItAt t h a l i) (e : ∀ o, h.get? a = some o → h'.get? a = some o) : ItAt t h' a l i := by
  cases t
  · exact Heap.IsListIter.at x e
  · exact Heap.IsTupleIter.at x e
theorem ItAt.ex {t : Bool} {h : Heap} {a l : Addr} {i : Nat} (x : ItAt t h a l i) : ∃ o vs, h.get? a = some o ∧ o.data = .fields vs := by
  cases t
  · obtain ⟨o, e, _, d⟩ := x; exact ⟨o, _, e, d⟩
  · obtain ⟨o, e, _, d⟩ := x; exact ⟨o, _, e, d⟩
theorem SqAt.at {t : Bool} {h h' : Heap} {a : Addr} {xs : Array Value} (x : SqAt t h a xs) (e : ∀ o, h.get? a = some o → h'.get? a = some o) : SqAt t h' a xs := by
  cases t
  · exact Heap.IsList.at x e
  · obtain ⟨o, ho, r⟩ := x
    exact ⟨o, e _ ho, r⟩
section
variable {prog : Program} {w : World} {A : Around} {E : Value → Shared → Prop} {s : Shared}
theorem nx_item {t : Bool} {it l : Addr} {i : Nat} {items : Array Value} {x : Value} {Q : Value → Shared → Prop} (hit : ItAt t s.heap it l i) (hl : SqAt t s.heap l items) (hx : items[i]? = some x)
    (hQ : ∀ h', ItAt t h' it l (i + 1) → Heap.SameBut it s.heap h' → Q x { s with heap := h' }) : wpAny (model prog w) A (Builtin.SmallTypes.nextOf (.ref it)) Q E s := by
  cases t
  · exact wpAny_nextOf_list_item hit hl hx hQ
  · exact RZ.nextOf_tuple_item hit hl hx hQ
theorem nx_end {t : Bool} {it l : Addr} {i : Nat} {items : Array Value} {Q : Value → Shared → Prop} (hh : A.handled = none) (hit : ItAt t s.heap it l i) (hl : SqAt t s.heap l items) (hx : items[i]? = none)
    (hE : ∀ h' e, Heap.ExtBut it s.heap h' → (∃ o, h'.get? e = some o ∧ o.cls = .type "StopIteration") → E (.ref e) { s with heap := h' }) : wpAny (model prog w) A (Builtin.SmallTypes.nextOf (.ref it)) Q E s := by
  cases t
  · exact wpAny_nextOf_list_end hh hit hl hx hE
  · exact RZ.nextOf_tuple_end hh hit hl hx hE
theorem oe_item {t : Bool} {it l : Addr} {i : Nat} {items : Array Value} {x : Value} {Q : Option Value → Shared → Prop} (hit : ItAt t s.heap it l i) (hl : SqAt t s.heap l items) (hx : items[i]? = some x)
    (hQ : ∀ h', ItAt t h' it l (i + 1) → Heap.SameBut it s.heap h' → Q (some x) { s with heap := h' }) : wpAny (model prog w) A (Builtin.SmallTypes.nextOrEnd (.ref it)) Q E s := by
  unfold Builtin.SmallTypes.nextOrEnd
  exact wpAny_bind (wpAny_attempt (nx_item hit hl hx fun h' a b => wpAny_pure (hQ h' a b)))
theorem oe_end {t : Bool} {it l : Addr} {i : Nat} {items : Array Value} {Q : Option Value → Shared → Prop} (hh : A.handled = none) (hit : ItAt t s.heap it l i) (hl : SqAt t s.heap l items) (hx : items[i]? = none)
    (hQ : ∀ h', Heap.ExtBut it s.heap h' → Q none { s with heap := h' }) : wpAny (model prog w) A (Builtin.SmallTypes.nextOrEnd (.ref it)) Q E s := by
  unfold Builtin.SmallTypes.nextOrEnd
  refine wpAny_bind (wpAny_attempt (nx_end hh hit hl hx fun h' e hk he => ?_))
  obtain ⟨o, ho, hc⟩ := he
  exact wpAny_bind (wpAny_isInstance (T := "StopIteration") (b := true) ⟨o, ho, hc⟩ isSubtype_stop (wpAny_pure (hQ _ hk)))
theorem stop_raises {α : Type} {Q : α → Shared → Prop} (hh : A.handled = none)
    (hE : ∀ h' e, (∀ c o, s.heap.get? c = some o → h'.get? c = some o) → (∃ o, h'.get? e = some o ∧ o.cls = .type "StopIteration") → E (.ref e) { s with heap := h' }) :
    wpAny (model prog w) A (Builtin.SmallTypes.stopIteration : Sem α) Q E s := by
  show wpAny _ _ (newExc (.type "StopIteration") [] >>= _) _ _ _
  refine wpAny_bind ?_
  simp only [newExc, newTuple]
  refine wpAny_bind (wpAny_newObj_type ?_ (by size_fits))
  refine wpAny_bind (m := firstArgMember _ _) (wpAny_of_eq (a := Value.none) (by first | rfl | (simp only [firstArgMember]; rfl)) ?_)
  refine wpAny_newObj_type ?_ (by size_fits)
  simp only [raiseNew]
  refine wpAny_bind (wpAny_handled ?_)
  first | rw [show A.in1.handled = none from hh] | rw [hh]
  refine wpAny_bind (wpAny_pure (wpAny_throw ?_))
  exact hE _ _ (fun c o e => Heap.get?_push_of_some _ (Heap.get?_push_of_some _ e)) ⟨_, Heap.get?_push_size _ rfl, rfl⟩

theorem ite_no {α : Type} {c : Prop} [Decidable c] {a b : Sem α} {Q : α → Shared → Prop} {M : Model} (hc : ¬ c) (h : wpAny M A b Q E s) : wpAny M A (if c then a else b) Q E s := by
  rw [if_neg hc]
  exact h
abbrev IsZ (h : Heap) (z TI TO : Addr) (f0 : Value) (b : Bool) : Prop :=
  h.get? z = some { cls := .type "zip", dict := none, data := .fields #[f0, .bool false, .bool b, .ref TI, .ref TO], slots := #[] }

theorem next_item {b ta tb : Bool} {z TI TO i1 i2 l1 l2 : Addr} {k1 k2 : Nat} {xs ys : Array Value} {x y a c : Value} {Q : Value → Shared → Prop} (D : ZipApart z TI TO i1 i2 l1 l2)
    (hz : IsZ s.heap z TI TO .none b) (hTI : IsPair s.heap TI (.ref i1) (.ref i2)) (hTO : IsPair s.heap TO a c)
    (h1 : ItAt ta s.heap i1 l1 k1) (h2 : ItAt tb s.heap i2 l2 k2) (hl1 : SqAt ta s.heap l1 xs) (hl2 : SqAt tb s.heap l2 ys) (hx : xs[k1]? = some x) (hy : ys[k2]? = some y)
    (hQ : ∀ h', IsZ h' z TI TO (rawInt s.heap.objs.size) b → IsPair h' TO x y → ItAt ta h' i1 l1 (k1 + 1) → ItAt tb h' i2 l2 (k2 + 1) → IsPair h' s.heap.objs.size x y → h'.objs.size = s.heap.objs.size + 1 →
      (∀ c o, c ≠ z → c ≠ TO → c ≠ i1 → c ≠ i2 → s.heap.get? c = some o → h'.get? c = some o) → Q (.ref s.heap.objs.size) { s with heap := h' }) :
    wpAny (model prog w) A (Builtin.«zip.__next__» ⟨[.ref z], []⟩) (fun fin s' => ∃ v, fin = .done (.ret v) ∧ Q v s') E s := by
  show wpAny _ _ (field (.ref z) 2 >>= _) _ _ _
  refine wpAny_bind (wpAny_field hz rfl (x := .bool b) rfl ?_)
  show wpAny _ _ (field (.ref z) 3 >>= _) _ _ _
  refine wpAny_bind (wpAny_field hz rfl (x := .ref TI) rfl ?_)
  refine wpAny_bind (wpAny_seqItems hTI rfl ?_)
  show wpAny _ _ (Builtin.SmallTypes.ownedTupleIsFree (.ref z) >>= _) _ _ _
  refine wpAny_bind ?_
  unfold Builtin.SmallTypes.ownedTupleIsFree
  refine wpAny_bind (wpAny_field hz rfl (x := .none) rfl (wpAny_pure ?_))
  simp only [if_true]
  refine wpAny_bind (wpAny_rule ?_)
  refine wpAny_bind (wpAny_field hz rfl (x := .ref TO) rfl ?_)
  refine wpAny_bind (wpAny_setField_rec hz (by simp) fun h₁ hz₁ hs₁ => ?_)
  replace hz₁ : IsZ h₁ z TI TO .ellipsis b := hz₁
  refine wpAny_bind ?_
  simp only [List.zipIdx_cons, List.zipIdx_nil, List.forIn_cons, List.forIn_nil]
  refine wpAny_bind (wpAny_bind (wpAny_onRaise ?_))
  have a1 : ItAt ta h₁ i1 l1 k1 := h1.at fun o e => hs₁.extBut _ _ D.i1z e
  have b1 : SqAt ta h₁ l1 xs := hl1.at fun o e => hs₁.extBut _ _ D.l1z e
  -- the first draw
  have draw1 : ∀ {P : Option Value → Shared → Prop} {E' : Value → Shared → Prop}, (∀ h₂, ItAt ta h₂ i1 l1 (k1 + 1) → Heap.SameBut i1 h₁ h₂ → P (some x) { s with heap := h₂ }) →
      wpAny (model prog w) A (if (Value.bool b == .bool true) = true then Builtin.SmallTypes.nextOrEnd (.ref i1) else (do return some (← Builtin.SmallTypes.nextOf (.ref i1)))) P E' { s with heap := h₁ } := fun hP => by
    cases b
    · exact wpAny_bind (nx_item a1 b1 hx fun h₂ p q => wpAny_pure (hP h₂ p q))
    · exact oe_item a1 b1 hx hP
  refine draw1 fun h₂ h1₂ hs₂ => ?_
  have hTO₂ : IsPair h₂ TO a c := hs₂.extBut _ _ D.TOi1 (hs₁.extBut _ _ D.TOz hTO)
  refine wpAny_bind (wpAny_seqItems hTO₂ rfl ?_)
  refine wpAny_bind (wpAny_updateSeq_pair hTO₂ fun h₃ hTO₃ hs₃ => ?_)
  replace hTO₃ : IsPair h₃ TO x c := hTO₃
  refine wpAny_bind (wpAny_letGo (wpAny_pure ?_))
  refine wpAny_bind (wpAny_bind (wpAny_onRaise ?_))
  have a2 : ItAt tb h₃ i2 l2 k2 := h2.at fun o e => hs₃.extBut _ _ D.TOi2.symm (hs₂.extBut _ _ D.i12.symm (hs₁.extBut _ _ D.i2z e))
  have b2 : SqAt tb h₃ l2 ys := hl2.at fun o e => hs₃.extBut _ _ D.l2TO (hs₂.extBut _ _ D.l2i1 (hs₁.extBut _ _ D.l2z e))
  have draw2 : ∀ {P : Option Value → Shared → Prop} {E' : Value → Shared → Prop}, (∀ h₂, ItAt tb h₂ i2 l2 (k2 + 1) → Heap.SameBut i2 h₃ h₂ → P (some y) { s with heap := h₂ }) →
      wpAny (model prog w) A (if (Value.bool b == .bool true) = true then Builtin.SmallTypes.nextOrEnd (.ref i2) else (do return some (← Builtin.SmallTypes.nextOf (.ref i2)))) P E' { s with heap := h₃ } := fun hP => by
    cases b
    · exact wpAny_bind (nx_item a2 b2 hy fun h₂ p q => wpAny_pure (hP h₂ p q))
    · exact oe_item a2 b2 hy hP
  refine draw2 fun h₄ h2₄ hs₄ => ?_
  have hTO₄ : IsPair h₄ TO x c := hs₄.extBut _ _ D.TOi2 hTO₃
  refine wpAny_bind (wpAny_seqItems hTO₄ rfl ?_)
  refine wpAny_bind (wpAny_updateSeq_pair hTO₄ fun h₅ hTO₅ hs₅ => ?_)
  replace hTO₅ : IsPair h₅ TO x y := hTO₅
  refine wpAny_bind (wpAny_letGo (wpAny_pure (wpAny_pure ?_)))
  refine wpAny_bind (wpAny_seqItems hTO₅ rfl ?_)
  refine wpAny_bind (wpAny_newTuple ?_)
  have hsz : h₅.objs.size = s.heap.objs.size := by rw [hs₅.1, hs₄.1, hs₃.1, hs₂.1, hs₁.1]
  have hz₅ : IsZ h₅ z TI TO .ellipsis b := hs₅.extBut _ _ D.TOz.symm (hs₄.extBut _ _ D.i2z.symm (hs₃.extBut _ _ D.TOz.symm (hs₂.extBut _ _ D.i1z.symm hz₁)))
  have hk₅ : ∀ c o, c ≠ z → c ≠ TO → c ≠ i1 → c ≠ i2 → s.heap.get? c = some o → h₅.get? c = some o := fun c o c1 c2 c3 c4 e =>
    hs₅.extBut _ _ c2 (hs₄.extBut _ _ c4 (hs₃.extBut _ _ c2 (hs₂.extBut _ _ c3 (hs₁.extBut _ _ c1 e))))
  have h1₅ : ItAt ta h₅ i1 l1 (k1 + 1) := h1₂.at fun o e => hs₅.extBut _ _ D.TOi1.symm (hs₄.extBut _ _ D.i12 (hs₃.extBut _ _ D.TOi1.symm e))
  have h2₅ : ItAt tb h₅ i2 l2 (k2 + 1) := h2₄.at fun o e => hs₅.extBut _ _ D.TOi2.symm e
  have hzlt : z < h₅.objs.size := Heap.lt_size hz₅
  have hTOlt : TO < h₅.objs.size := Heap.lt_size hTO₅
  have hi1lt : i1 < h₅.objs.size := by obtain ⟨_, _, e, _⟩ := h1₅.ex; exact Heap.lt_size e
  have hi2lt : i2 < h₅.objs.size := by obtain ⟨_, _, e, _⟩ := h2₅.ex; exact Heap.lt_size e
  show wpAny _ _ (Builtin.SmallTypes.ownedTupleHandOut (.ref z) (.ref h₅.objs.size) >>= _) _ _ _
  refine wpAny_bind ?_
  unfold Builtin.SmallTypes.ownedTupleHandOut
  have hz₆ : IsZ (h₅.push { cls := .type "tuple", data := .seq #[x, y] }) z TI TO .ellipsis b := Heap.get?_push_of_some _ hz₅
  refine wpAny_bind (wpAny_setField_rec hz₆ (by simp) fun h₇ hz₇ hs₇ => ?_)
  replace hz₇ : IsZ h₇ z TI TO (rawInt h₅.objs.size) b := hz₇
  refine wpAny_setField_rec hz₇ (by simp) fun h₈ hz₈ hs₈ => ?_
  replace hz₈ : IsZ h₈ z TI TO (rawInt h₅.objs.size) b := hz₈
  have up : ∀ c o, c ≠ z → h₅.get? c = some o → h₈.get? c = some o := fun c o c1 e => hs₈.extBut _ _ c1 (hs₇.extBut _ _ c1 (Heap.get?_push_of_some _ e))
  have hT₈ : IsPair h₈ h₅.objs.size x y := hs₈.extBut _ _ (Nat.ne_of_gt hzlt) (hs₇.extBut _ _ (Nat.ne_of_gt hzlt) (Heap.get?_push_size _ rfl))
  have hz8 : h₈.objs.size = h₅.objs.size + 1 := by rw [hs₈.1, hs₇.1, Heap.size_push]
  rw [hsz] at hz₈ hT₈ hz8
  refine wpAny_pure ⟨_, rfl, ?_⟩
  show Q (.ref h₅.objs.size) _
  rw [hsz]
  exact hQ h₈ hz₈ (up _ _ D.TOz hTO₅) (h1₅.at fun o e => up _ o D.i1z e) (h2₅.at fun o e => up _ o D.i2z e) hT₈ hz8 fun c o c1 c2 c3 c4 e => up c o c1 (hk₅ c o c1 c2 c3 c4 e)

/-- the end: of a strict one both end at once -/
theorem next_end {b ta tb : Bool} {z TI TO i1 i2 l1 l2 : Addr} {k1 k2 : Nat} {xs ys : Array Value} {a c : Value} {Q : Fin → Shared → Prop} (hh : A.handled = none) (D : ZipApart z TI TO i1 i2 l1 l2)
    (hz : IsZ s.heap z TI TO .none b) (hTI : IsPair s.heap TI (.ref i1) (.ref i2)) (hTO : IsPair s.heap TO a c)
    (h1 : ItAt ta s.heap i1 l1 k1) (h2 : ItAt tb s.heap i2 l2 k2) (hl1 : SqAt ta s.heap l1 xs) (hl2 : SqAt tb s.heap l2 ys) (hend : xs[k1]? = none ∧ (b = true → ys[k2]? = none) ∨ (b = false ∧ ys[k2]? = none))
    (hE : ∀ h' e, (∀ c o, c ≠ z → c ≠ TO → c ≠ i1 → c ≠ i2 → s.heap.get? c = some o → h'.get? c = some o) → (∃ o, h'.get? e = some o ∧ o.cls = .type "StopIteration") → E (.ref e) { s with heap := h' }) :
    wpAny (model prog w) A (Builtin.«zip.__next__» ⟨[.ref z], []⟩) Q E s := by
  show wpAny _ _ (field (.ref z) 2 >>= _) _ _ _
  refine wpAny_bind (wpAny_field hz rfl (x := .bool b) rfl ?_)
  show wpAny _ _ (field (.ref z) 3 >>= _) _ _ _
  refine wpAny_bind (wpAny_field hz rfl (x := .ref TI) rfl ?_)
  refine wpAny_bind (wpAny_seqItems hTI rfl ?_)
  show wpAny _ _ (Builtin.SmallTypes.ownedTupleIsFree (.ref z) >>= _) _ _ _
  refine wpAny_bind ?_
  unfold Builtin.SmallTypes.ownedTupleIsFree
  refine wpAny_bind (wpAny_field hz rfl (x := .none) rfl (wpAny_pure ?_))
  simp only [if_true]
  refine wpAny_bind (wpAny_rule ?_)
  refine wpAny_bind (wpAny_field hz rfl (x := .ref TO) rfl ?_)
  refine wpAny_bind (wpAny_setField_rec hz (by simp) fun h₁ hz₁ hs₁ => ?_)
  replace hz₁ : IsZ h₁ z TI TO .ellipsis b := hz₁
  refine wpAny_bind ?_
  simp only [List.zipIdx_cons, List.zipIdx_nil, List.forIn_cons, List.forIn_nil]
  refine wpAny_bind (wpAny_bind (wpAny_onRaise ?_))
  have a1 : ItAt ta h₁ i1 l1 k1 := h1.at fun o e => hs₁.extBut _ _ D.i1z e
  have b1 : SqAt ta h₁ l1 xs := hl1.at fun o e => hs₁.extBut _ _ D.l1z e
  cases b with
  | false =>
    show wpAny _ _ (Builtin.SmallTypes.nextOf (.ref i1) >>= _) _ _ _
    cases hx : xs[k1]? with
    | none =>
      refine wpAny_bind (nx_end hh a1 b1 hx fun h₂ e hs₂ he => ?_)
      obtain ⟨oe, hoe, hce⟩ := he
      have hz₂ : IsZ h₂ z TI TO .ellipsis false := hs₂ _ _ D.i1z.symm hz₁
      have hez : e ≠ z := fun x => by subst x; rw [hz₂] at hoe; cases hoe; simp at hce
      refine wpAny_setField_rec hz₂ (by simp) fun h₃ _ hs₃ => hE h₃ e (fun c o c1 _ c3 _ x => hs₃.extBut _ _ c1 (hs₂ _ _ c3 (hs₁.extBut _ _ c1 x))) ⟨oe, hs₃.extBut _ _ hez hoe, hce⟩
    | some x =>
      have hy : ys[k2]? = none := by
        rcases hend with h | h
        · rw [hx] at h; cases h.1
        · exact h.2
      refine wpAny_bind (nx_item a1 b1 hx fun h₂ h1₂ hs₂ => wpAny_pure ?_)
      have hTO₂ : IsPair h₂ TO a c := hs₂.extBut _ _ D.TOi1 (hs₁.extBut _ _ D.TOz hTO)
      refine wpAny_bind (wpAny_seqItems hTO₂ rfl ?_)
      refine wpAny_bind (wpAny_updateSeq_pair hTO₂ fun h₃ hTO₃ hs₃ => ?_)
      refine wpAny_bind (wpAny_letGo (wpAny_pure ?_))
      refine wpAny_bind (wpAny_bind (wpAny_onRaise ?_))
      have a2 : ItAt tb h₃ i2 l2 k2 := h2.at fun o e => hs₃.extBut _ _ D.TOi2.symm (hs₂.extBut _ _ D.i12.symm (hs₁.extBut _ _ D.i2z e))
      have b2 : SqAt tb h₃ l2 ys := hl2.at fun o e => hs₃.extBut _ _ D.l2TO (hs₂.extBut _ _ D.l2i1 (hs₁.extBut _ _ D.l2z e))
      show wpAny _ _ (Builtin.SmallTypes.nextOf (.ref i2) >>= _) _ _ _
      refine wpAny_bind (nx_end hh a2 b2 hy fun h₄ e hs₄ he => ?_)
      obtain ⟨oe, hoe, hce⟩ := he
      have hz₄ : IsZ h₄ z TI TO .ellipsis false := hs₄ _ _ D.i2z.symm (hs₃.extBut _ _ D.TOz.symm (hs₂.extBut _ _ D.i1z.symm hz₁))
      have hez : e ≠ z := fun x => by subst x; rw [hz₄] at hoe; cases hoe; simp at hce
      refine wpAny_setField_rec hz₄ (by simp) fun h₅ _ hs₅ => hE h₅ e (fun c o c1 c2 c3 c4 x => hs₅.extBut _ _ c1 (hs₄ _ _ c4 (hs₃.extBut _ _ c2 (hs₂.extBut _ _ c3 (hs₁.extBut _ _ c1 x))))) ⟨oe, hs₅.extBut _ _ hez hoe, hce⟩
  | true =>
    have hx : xs[k1]? = none := by
      rcases hend with h | h
      · exact h.1
      · cases h.1
    have hy : ys[k2]? = none := by
      rcases hend with h | h
      · exact h.2 rfl
      · exact h.2
    show wpAny _ _ (Builtin.SmallTypes.nextOrEnd (.ref i1)) _ _ _
    refine oe_end hh a1 b1 hx fun h₂ hs₂ => ?_
    have hz₂ : IsZ h₂ z TI TO .ellipsis true := hs₂ _ _ D.i1z.symm hz₁
    refine wpAny_bind (wpAny_setField_rec hz₂ (by simp) fun h₃ hz₃ hs₃ => ?_)
    have a2 : ItAt tb h₃ i2 l2 k2 := h2.at fun o e => hs₃.extBut _ _ D.i2z (hs₂ _ _ D.i12.symm (hs₁.extBut _ _ D.i2z e))
    have b2 : SqAt tb h₃ l2 ys := hl2.at fun o e => hs₃.extBut _ _ D.l2z (hs₂ _ _ D.l2i1 (hs₁.extBut _ _ D.l2z e))
    refine wpAny_bind ?_
    refine wpAny_bind ?_
    simp only [List.drop_succ_cons, List.drop_zero, List.zipIdx_cons, List.zipIdx_nil, List.forIn_cons, List.forIn_nil]
    refine wpAny_bind (wpAny_bind (oe_end hh a2 b2 hy fun h₄ hs₄ => ?_))
    refine ite_no (by simp) ?_
    refine wpAny_pure (wpAny_pure ?_)
    refine wpAny_bind (wpAny_rule (stop_raises hh fun h₅ e hk he => hE h₅ e (fun c o c1 _ c3 c4 x => hk _ _ (hs₄ _ _ c4 (hs₃.extBut _ _ c1 (hs₂ _ _ c3 (hs₁.extBut _ _ c1 x))))) he))

theorem pyNext_item {b ta tb : Bool} {z TI TO i1 i2 l1 l2 : Addr} {k1 k2 : Nat} {xs ys : Array Value} {x y a c : Value} {Q : Option Value → Shared → Prop} (D : ZipApart z TI TO i1 i2 l1 l2)
    (hz : IsZ s.heap z TI TO .none b) (hTI : IsPair s.heap TI (.ref i1) (.ref i2)) (hTO : IsPair s.heap TO a c)
    (h1 : ItAt ta s.heap i1 l1 k1) (h2 : ItAt tb s.heap i2 l2 k2) (hl1 : SqAt ta s.heap l1 xs) (hl2 : SqAt tb s.heap l2 ys) (hx : xs[k1]? = some x) (hy : ys[k2]? = some y)
    (hQ : ∀ h', IsZ h' z TI TO (rawInt s.heap.objs.size) b → IsPair h' TO x y → ItAt ta h' i1 l1 (k1 + 1) → ItAt tb h' i2 l2 (k2 + 1) → IsPair h' s.heap.objs.size x y → h'.objs.size = s.heap.objs.size + 1 →
      (∀ c o, c ≠ z → c ≠ TO → c ≠ i1 → c ≠ i2 → s.heap.get? c = some o → h'.get? c = some o) → Q (some (.ref s.heap.objs.size)) { s with heap := h' }) :
    wpAny (model prog w) A (pyNext (.ref z)) Q E s := by
  have hT : s.TypeIs (.ref z) "zip" := ⟨_, hz, rfl⟩
  unfold pyNext
  exact wpAny_bind (wpAny_attempt (wpAny_callSpecial?_slot (name := Str.ofString "__next__") hT F.slot_zip_next
    (wpAny_call_entry F.slot_zip_next hT F.entry_zip_next
      (next_item D hz hTI hTO h1 h2 hl1 hl2 hx hy fun h' a1 a2 a3 a4 a5 a6 a7 => wpAny_pure (hQ h' a1 a2 a3 a4 a5 a6 a7)) (F.args_zip_next_1 _))))
theorem pyNext_end {b ta tb : Bool} {z TI TO i1 i2 l1 l2 : Addr} {k1 k2 : Nat} {xs ys : Array Value} {a c : Value} {Q : Option Value → Shared → Prop} (hh : A.handled = none) (D : ZipApart z TI TO i1 i2 l1 l2)
    (hz : IsZ s.heap z TI TO .none b) (hTI : IsPair s.heap TI (.ref i1) (.ref i2)) (hTO : IsPair s.heap TO a c)
    (h1 : ItAt ta s.heap i1 l1 k1) (h2 : ItAt tb s.heap i2 l2 k2) (hl1 : SqAt ta s.heap l1 xs) (hl2 : SqAt tb s.heap l2 ys) (hend : xs[k1]? = none ∧ (b = true → ys[k2]? = none) ∨ (b = false ∧ ys[k2]? = none))
    (hQ : ∀ h', (∀ c o, c ≠ z → c ≠ TO → c ≠ i1 → c ≠ i2 → s.heap.get? c = some o → h'.get? c = some o) → Q none { s with heap := h' }) : wpAny (model prog w) A (pyNext (.ref z)) Q E s := by
  have hT : s.TypeIs (.ref z) "zip" := ⟨_, hz, rfl⟩
  unfold pyNext
  refine wpAny_bind (wpAny_attempt (wpAny_callSpecial?_slot (name := Str.ofString "__next__") hT F.slot_zip_next
    (wpAny_call_entry F.slot_zip_next hT F.entry_zip_next (next_end hh D hz hTI hTO h1 h2 hl1 hl2 hend fun h' e hk he => ?_) (F.args_zip_next_1 _))))
  obtain ⟨o, ho, hc⟩ := he
  refine wpAny_bind (wpAny_isInstance (T := "StopIteration") (b := true) ⟨o, ho, hc⟩ isSubtype_stop ?_)
  exact wpAny_pure (hQ _ hk)
theorem letGo_zip {b : Bool} {elts : List Expr} {x1} {pos : Pos} {z TI TO T : Addr} {Q : Unit → Shared → Prop} (hz : IsZ s.heap z TI TO (rawInt T) b)
    (hQ : ∀ h', IsZ h' z TI TO .none b → Heap.SameBut z s.heap h' → Q () { s with heap := h' }) :
    wpAny (model prog w) A (letOwnedTupleGo (.Tuple elts x1 pos) (.ref z) (.ref T)) Q E s := by
  unfold letOwnedTupleGo
  refine wpAny_bind (wpAny_load hz ?_)
  show wpAny _ _ (if (["enumerate", "zip", "dict_itemiterator", "dict_reverseitemiterator", "odict_iterator", "itertools.zip_longest", "itertools.pairwise"].contains "zip" &&
      (#[rawInt T, .bool false, .bool b, .ref TI, .ref TO] : Array Value)[0]? == some (rawInt T)) = true then _ else _) Q E s
  rw [if_pos (by simp)]
  refine wpAny_bind (wpAny_rule ?_)
  show wpAny _ _ (setField (.ref z) 0 .none) Q E s
  exact wpAny_setField_rec hz (by simp) fun h' hz' hs' => hQ h' hz' hs'
theorem pyIter_zip {b : Bool} {z TI TO : Addr} {f0 : Value} {Q : Value → Shared → Prop} (hz : IsZ s.heap z TI TO f0 b) (h : Q (.ref z) s) : wpAny (model prog w) A (pyIter (.ref z)) Q E s := by
  have hT : s.TypeIs (.ref z) "zip" := ⟨_, hz, rfl⟩
  refine wpAny_pyIter_slot hT F.slot_zip_iter (wpAny_call_entry F.slot_zip_iter hT F.entry_zip_iter ?_ (F.args_zip_iter_1 _))
  show wpAny _ _ (ret (.ref z)) _ _ s
  exact wpAny_pure ⟨_, rfl, "zip", _, hT, F.slot_zip_next.lookup, h⟩
end

/-! ### making one -/
def itO (t : Bool) (l : Addr) : Obj := { cls := .type (if t = true then "tuple_iterator" else "list_iterator"), data := .fields #[.ref l, .int 0 0] }
abbrev zH1 (ta : Bool) (h : Heap) (l1 : Addr) : Heap := h.push (itO ta l1)
abbrev zH2 (ta tb : Bool) (h : Heap) (l1 l2 : Addr) : Heap := (zH1 ta h l1).push (itO tb l2)
abbrev zH3 (ta tb : Bool) (h : Heap) (l1 l2 : Addr) : Heap := (zH2 ta tb h l1 l2).push { cls := .type "tuple", data := .seq #[.ref h.objs.size, .ref (zH1 ta h l1).objs.size] }
abbrev zH4 (ta tb : Bool) (h : Heap) (l1 l2 : Addr) : Heap := (zH3 ta tb h l1 l2).push { cls := .type "tuple", data := .seq #[.none, .none] }
abbrev zH5 (b ta tb : Bool) (h : Heap) (l1 l2 : Addr) : Heap := (zH4 ta tb h l1 l2).push { cls := .type "zip", data := .fields #[.none, .bool false, .bool b, .ref (zH2 ta tb h l1 l2).objs.size, .ref (zH3 ta tb h l1 l2).objs.size] }
theorem iter_at {t : Bool} {l : Addr} {xs : Array Value} {prog : Program} {w : World} {A : Around} {E : Value → Shared → Prop} {s : Shared} {Q : Value → Shared → Prop} (h : SqAt t s.heap l xs) (q : Q (.ref s.heap.objs.size) { s with heap := s.heap.push (itO t l) }) :
    wpAny (model prog w) A (pyIter (.ref l)) Q E s := by
  cases t
  · exact wpAny_pyIter_list h q
  · exact wpAny_pyIter_tuple h q
def kwOf (b : Bool) : List (Str × Value) := if b = true then [(Str.ofString "strict", .bool true)] else []
set_option maxHeartbeats 8000000 in
theorem meets_new (b ta tb : Bool) (l1 l2 : Addr) (xs ys : Array Value) :
    Meets (Builtin.«zip.__new__» ⟨[.type "zip", .ref l1, .ref l2], kwOf b⟩) (fun _ R s => SqAt ta s.heap l1 xs ∧ SqAt tb s.heap l2 ys ∧
      R (.ok (.ret (.ref (zH4 ta tb s.heap l1 l2).objs.size))) { s with heap := zH5 b ta tb s.heap l1 l2 }) :=
  .of_wp fun prog w A R s h => by
    obtain ⟨hp, g, d, tk, os⟩ := s; obtain ⟨hl1, hl2, h⟩ := h
    have hsub := sub_zip
    have hL1 : SqAt ta (Shared.heap ⟨hp, g, d, tk, os⟩) l1 xs := hl1
    have hL2 : SqAt tb (Shared.heap ⟨hp.push (itO ta l1), g, d, tk, os⟩) l2 ys := hl2.at fun o e => Heap.get?_push_of_some _ e
    have e1 : (Str.ofString "strict" != ("strict" : Str)) = false := by decide +kernel
    cases b
    · unfold kwOf
      wp_walk using iter_at hL1, iter_at hL2
      exact ⟨_, rfl, h⟩
    · unfold kwOf
      wp_walk using iter_at hL1, iter_at hL2
      exact ⟨_, rfl, h⟩
end ZS
set_option Elab.async false
set_option linter.all false
set_option maxRecDepth 100000
set_option maxHeartbeats 4000000
/-! zip: its call, its turns, a rule for what is walked. -/
namespace ZS
open PySem PySem.Spec L2
open PyProof.Rows (Call_)
theorem typeCall_zip (b : Bool) (x y : Value) : checkTypeCall "zip" ⟨[x, y], kwOf b⟩ = pure () := by cases b <;> kernel_rfl
theorem newCall_zip (b : Bool) (x y : Value) : checkBuiltinCall "zip.__new__" ⟨[.type "zip", x, y], kwOf b⟩ = pure () := by cases b <;> kernel_rfl
theorem args_init_zip (b : Bool) (obj x y : Value) : argsOk "object.__init__" ⟨[obj, x, y], kwOf b⟩ := by
  unfold argsOk
  cases b <;> kernel_rfl
section
variable {prog : Program} {w : World} {A : Around} {E : Value → Shared → Prop} {s : Shared}
theorem call_zip {b ta tb : Bool} {l1 l2 : Addr} {xs ys : Array Value} {Q : Value → Shared → Prop} (hl1 : SqAt ta s.heap l1 xs) (hl2 : SqAt tb s.heap l2 ys)
    (h : ∀ h', IsZ h' (s.heap.objs.size + 4) (s.heap.objs.size + 2) (s.heap.objs.size + 3) .none b → IsPair h' (s.heap.objs.size + 2) (.ref s.heap.objs.size) (.ref (s.heap.objs.size + 1)) →
      IsPair h' (s.heap.objs.size + 3) .none .none → ItAt ta h' s.heap.objs.size l1 0 → ItAt tb h' (s.heap.objs.size + 1) l2 0 → h'.objs.size = s.heap.objs.size + 5 →
      (∀ c o, s.heap.get? c = some o → h'.get? c = some o) → Q (.ref (s.heap.objs.size + 4)) { s with heap := h' }) :
    wpAny (model prog w) A (call (.type "zip") [.ref l1, .ref l2] (kwOf b)) Q E s := by
  have z1 : (zH1 ta s.heap l1).objs.size = s.heap.objs.size + 1 := Heap.size_push ..
  have z2 : (zH2 ta tb s.heap l1 l2).objs.size = s.heap.objs.size + 2 := by rw [Heap.size_push, z1]
  have z3 : (zH3 ta tb s.heap l1 l2).objs.size = s.heap.objs.size + 3 := by rw [Heap.size_push, z2]
  have z4 : (zH4 ta tb s.heap l1 l2).objs.size = s.heap.objs.size + 4 := by rw [Heap.size_push, z3]
  have z5 : (zH5 b ta tb s.heap l1 l2).objs.size = s.heap.objs.size + 5 := by rw [Heap.size_push, z4]
  have fr : ∀ t l, (itO t l).isFreed = false := fun t l => by cases t <;> rfl
  have it0 : ∀ (t : Bool) (l a : Addr) (h : Heap), h.get? a = some (itO t l) → ItAt t h a l 0 := fun t l a h e => by
    cases t
    · exact ⟨_, e, rfl, rfl⟩
    · exact ⟨_, e, rfl, rfl⟩
  have g5 : (zH5 b ta tb s.heap l1 l2).get? (zH4 ta tb s.heap l1 l2).objs.size = some _ := Heap.get?_push_size _ rfl
  have g4 : (zH5 b ta tb s.heap l1 l2).get? (zH3 ta tb s.heap l1 l2).objs.size = some _ := Heap.get?_push_of_some _ (Heap.get?_push_size _ rfl)
  have g3 : (zH5 b ta tb s.heap l1 l2).get? (zH2 ta tb s.heap l1 l2).objs.size = some _ := Heap.get?_push_of_some _ (Heap.get?_push_of_some _ (Heap.get?_push_size _ rfl))
  have g2 : (zH5 b ta tb s.heap l1 l2).get? (zH1 ta s.heap l1).objs.size = some _ := Heap.get?_push_of_some _ (Heap.get?_push_of_some _ (Heap.get?_push_of_some _ (Heap.get?_push_size _ (fr tb l2))))
  have g1 : (zH5 b ta tb s.heap l1 l2).get? s.heap.objs.size = some _ := Heap.get?_push_of_some _ (Heap.get?_push_of_some _ (Heap.get?_push_of_some _ (Heap.get?_push_of_some _ (Heap.get?_push_size _ (fr ta l1)))))
  have fin : (fun obj (s₁ : Shared) => s₁.TypeIs obj "zip" ∧ Q obj s₁) (.ref (zH4 ta tb s.heap l1 l2).objs.size) { s with heap := zH5 b ta tb s.heap l1 l2 } := by
    show _ ∧ _
    rw [z2, z3, z4] at g5
    rw [z1, z2] at g3
    rw [z3] at g4
    rw [z1] at g2
    rw [z4]
    exact ⟨⟨_, g5, rfl⟩, h _ g5 g3 g4 (it0 _ _ _ _ g1) (it0 _ _ _ _ g2) z5 fun c o x =>
      Heap.get?_push_of_some _ (Heap.get?_push_of_some _ (Heap.get?_push_of_some _ (Heap.get?_push_of_some _ (Heap.get?_push_of_some _ x))))⟩
  exact callType_newKw F.called_zip (by decide) (typeCall_zip b _ _) (newCall_zip b _ _) (fun obj => args_init_zip b obj _ _) F.entry_zip_new (meets_new b ta tb l1 l2 xs ys) ⟨hl1, hl2, fin⟩
end
/-! ### over the tracked heap -/
def SqV (t : Bool) (K : PySem.W.Frag) (H : Hp) (a : Addr) (xs : List V) : Prop := match t with | true => SqT K H a xs | false => SqL K H a xs
def ItZ (K : PySem.W.Frag) (b ta tb : Bool) (a c : Addr) : It :=
  ⟨fun i H => ∃ (xs ys : List V) (x y : V), SqV ta K H a xs ∧ SqV tb K H c ys ∧ xs[i]? = some x ∧ ys[i]? = some y,
    fun i H v H' => ∃ T x y, v = .ref T ∧ H T = none ∧ H' = upd H T (.tup [x, y]) ∧ (∀ xs, SqV ta K H a xs → xs[i]? = some x) ∧ ∀ ys, SqV tb K H c ys → ys[i]? = some y,
    fun i H => ∃ xs ys : List V, SqV ta K H a xs ∧ SqV tb K H c ys ∧ (xs.length ≤ i ∧ (b = true → ys.length ≤ i) ∨ b = false ∧ ys.length ≤ i)⟩
section
variable {X : Cx} {pins : List (Addr × Obj)} {σ : St} {H : Hp} {s : Shared} {a : Addr} {xs ys : List V}
theorem inv_sq {t : Bool} (I : Inv X pins σ H s) (h : SqV t X.K H a xs) : ∃ its : List Value, Vals xs its ∧ SqAt t s.heap a its.toArray := by
  cases t
  · obtain ⟨its, r, p, _⟩ := I.list h
    exact ⟨its, r, p.isList⟩
  · obtain ⟨its, r, p, _⟩ := I.tuple h
    exact ⟨its, r, p⟩
theorem sq_inj {t : Bool} (I : Inv X pins σ H s) (h : SqV t X.K H a xs) (h' : SqV t X.K H a ys) : xs = ys := by
  cases t
  · exact I.list_inj h h'
  · exact I.tuple_inj h h'
end
theorem turn_zipS {P : Program} {w : World} {K : PySem.W.Frag} {b ta tb : Bool} {elts : List Expr} {kk : Nat} {tpos : Pos} {a c z TI TO i1 i2 : Addr} (D : ZipApart z TI TO i1 i2 a c) :
    Turn P w K (.Tuple elts kk tpos) (ItZ K b ta tb a c) [z, TI, TO, i1, i2] z (fun i h => IsZ h z TI TO .none b ∧ IsPair h TI (.ref i1) (.ref i2) ∧ (∃ x y, IsPair h TO x y) ∧ ItAt ta h i1 a i ∧ ItAt tb h i2 c i) where
  mem := by simp
  obj := fun i h st c' hc => by
    obtain ⟨hz, hTI, ⟨x, y, hTO⟩, q1, q2⟩ := st
    obtain ⟨o1, v1, e1, d1⟩ := q1.ex
    obtain ⟨o2, v2, e2, d2⟩ := q2.ex
    have e' : c' = z ∨ c' = TI ∨ c' = TO ∨ c' = i1 ∨ c' = i2 := by simpa using hc
    rcases e' with q | q | q | q | q
    · rw [q]; exact ⟨_, hz, fun v q => nomatch q⟩
    · rw [q]; exact ⟨_, hTI, fun v q => nomatch q⟩
    · rw [q]; exact ⟨_, hTO, fun v q => nomatch q⟩
    · rw [q]; exact ⟨o1, e1, fun v q => by rw [d1] at q; cases q⟩
    · rw [q]; exact ⟨o2, e2, fun v q => by rw [d2] at q; cases q⟩
  keep := fun i h h' st k => by
    obtain ⟨hz, hTI, ⟨x, y, hTO⟩, h1, h2⟩ := st
    exact ⟨k z (by simp) _ hz, k TI (by simp) _ hTI, ⟨x, y, k TO (by simp) _ hTO⟩, h1.at fun o q => k i1 (by simp) o q, h2.at fun o q => k i2 (by simp) o q⟩
  item := by
    intro X hP hw hK hc i pins s σ H E I hf st hg
    subst hP hw hK
    obtain ⟨hz, hTI, ⟨x0, y0, hTO⟩, h1, h2⟩ := st
    obtain ⟨xs, ys, x, y, hqx, hqy, hx, hy⟩ := hg
    obtain ⟨its, rv, p⟩ := inv_sq I hqx
    obtain ⟨its2, rv2, p2⟩ := inv_sq I hqy
    obtain ⟨u, hu, ru⟩ := rv.get hx
    obtain ⟨u2, hu2, ru2⟩ := rv2.get hy
    have hzl : z < s.heap.objs.size := Heap.lt_size hz
    refine pyNext_item D hz hTI hTO h1 h2 p p2 (x := u) (y := u2) (by simpa using hu) (by simpa using hu2) fun h' z' TO' h1' h2' hT hsz hk => ?_
    refine ⟨_, rfl, letGo_zip (s := { s with heap := h' }) z' fun h'' z'' sb => ?_⟩
    have hT2 : h''.get? s.heap.objs.size = some { cls := .type "tuple", data := .seq #[u, u2] } := (sb.2 _ (Nat.ne_of_gt hzl)).trans hT
    have new : ObjOk X.prog X.w (upd H s.heap.objs.size (.tup [x, y])) h'' s.heap.objs.size (.tup [x, y]) :=
      ⟨by show 2 ≤ sizeLine; decide, [u, u2], .cons ru (.cons ru2 .nil), ⟨_, hT2, rfl, _, rfl⟩⟩
    have I1 : Inv X pins σ (upd H s.heap.objs.size (.tup [x, y])) { s with heap := h'' } :=
      I.turnedNew (t' := s.toks) (ch := [z, TI, TO, i1, i2]) (fun c o hb q => (sb.2 c (fun q' => hb (by simp [q']))).trans (hk c o (fun q' => hb (by simp [q'])) (fun q' => hb (by simp [q'])) (fun q' => hb (by simp [q'])) (fun q' => hb (by simp [q'])) q)) hf (Nat.le_refl _) new
    refine ⟨.ref s.heap.objs.size, _, I1, rfl, ⟨_, x, y, rfl, I.hok.fresh (Nat.le_refl _), rfl, fun l hl => by rw [sq_inj I hl hqx]; exact hx, fun l hl => by rw [sq_inj I hl hqy]; exact hy⟩, ⟨z'', ?_, ⟨u, u2, ?_⟩, ?_, ?_⟩, fun c' hcm => ?_⟩
    · exact (sb.2 _ D.TIz).trans (hk _ _ D.TIz D.TITO D.TIi1 D.TIi2 hTI)
    · exact (sb.2 _ D.TOz).trans TO'
    · exact h1'.at fun o q => (sb.2 _ D.i1z).trans q
    · exact h2'.at fun o q => (sb.2 _ D.i2z).trans q
    · have hlt : c' < s.heap.objs.size := by
        have e' : c' = z ∨ c' = TI ∨ c' = TO ∨ c' = i1 ∨ c' = i2 := by simpa using hcm
        rcases e' with q | q | q | q | q
        · rw [q]; exact hzl
        · rw [q]; exact Heap.lt_size hTI
        · rw [q]; exact Heap.lt_size hTO
        · rw [q]; obtain ⟨_, _, e1, _⟩ := h1.ex; exact Heap.lt_size e1
        · rw [q]; obtain ⟨_, _, e2, _⟩ := h2.ex; exact Heap.lt_size e2
      rw [upd_ne (Nat.ne_of_lt hlt)]
      exact (hf c' hcm).1
  done := by
    intro X hP hw hK hc i pins s σ H E I hf st hg
    subst hP hw hK
    obtain ⟨hz, hTI, ⟨x0, y0, hTO⟩, h1, h2⟩ := st
    obtain ⟨xs, ys, hqx, hqy, hend⟩ := hg
    obtain ⟨its, rv, p⟩ := inv_sq I hqx
    obtain ⟨its2, rv2, p2⟩ := inv_sq I hqy
    have l1 := rv.length
    have l2 := rv2.length
    have he : its.toArray[i]? = none ∧ (b = true → its2.toArray[i]? = none) ∨ (b = false ∧ its2.toArray[i]? = none) := by
      rcases hend with ⟨q, q2⟩ | ⟨q1, q2⟩
      · exact .inl ⟨by simp; omega, fun hb => by have := q2 hb; simp; omega⟩
      · exact .inr ⟨q1, by simp; omega⟩
    exact pyNext_end (I.ok.hd hc) D hz hTI hTO h1 h2 p p2 he fun h' hk => ⟨rfl, I.turnedL (t' := s.toks) (ch := [z, TI, TO, i1, i2]) (fun c o hb q =>
      hk c o (fun q' => hb (by simp [q'])) (fun q' => hb (by simp [q'])) (fun q' => hb (by simp [q'])) (fun q' => hb (by simp [q'])) q) hf⟩
  self := fun A i s Q E st h => pyIter_zip st.1 h

theorem walk_zipS {K : PySem.W.Frag} {b ta tb : Bool} {a c : Addr} {xs ys : List V} (hb : b = true → xs.length = ys.length) :
    Walk (ItZ K b ta tb a c) (min xs.length ys.length) (fun H => SqV ta K H a xs ∧ SqV tb K H c ys) (YPair (fun i => xs[i]?) (fun i => ys[i]?)) := by
  refine ⟨fun i _ hi q => ?_, fun _ q => ⟨xs, ys, q.1, q.2, ?_⟩, fun i H v H' _ q y => ?_⟩
  · have h1 : i < xs.length := by omega
    have h2 : i < ys.length := by omega
    exact ⟨xs, ys, xs[i], ys[i], q.1, q.2, by simp [h1], by simp [h2]⟩
  · cases b with
    | false =>
      by_cases h : xs.length ≤ ys.length
      · exact .inl ⟨by omega, fun z => nomatch z⟩
      · exact .inr ⟨rfl, by omega⟩
    | true =>
      have := hb rfl
      exact .inl ⟨by omega, fun _ => by omega⟩
  · obtain ⟨T, x, z, h1, h2, h3, h4, h5⟩ := y
    exact ⟨T, x, z, h1, h2, h3, h4 xs q.1, h5 ys q.2⟩

/-! ### the rule -/
section
variable {M : Model} {A : Around} {E : Value → Shared → Prop} {s : Shared} {env : Env}
theorem callWith_typeKw {pos : Pos} {T : String} {e : Expr} {rest : List Expr} {kws : List Keyword} {Q : Value → Shared → Prop}
    (h : wpAny M A (spliced (backTo pos (starEach (e :: rest) env))) (fun vs s₁ => wpAny M A (evalAll ((backToKw pos (keywordEach kws env)).map (·.2)))
      (fun kvs s₂ => wpAny M A (call (.type T) vs (((backToKw pos (keywordEach kws env)).filterMap (·.1)).zip kvs)) Q E s₂) E s₁) E s)
    (he : starEach (e :: rest) env = (false, eval e env) :: starEach rest env)
    (hplain : (backTo pos (starEach rest env)).any (·.1) = false)
    (hall : (backToKw pos (keywordEach kws env)).all (·.1.isSome) = true)
    (hkw : (backToKw pos (keywordEach kws env)).any (·.1.isNone) = false) :
    wpAny M A (callWith pos (.type T) [] (backTo pos (starEach (e :: rest) env)) (backToKw pos (keywordEach kws env))) Q E s := by
  have he2 : backTo pos (starEach (e :: rest) env) = (false, eval e env) :: backTo pos (starEach rest env) := by rw [he]; rfl
  rw [he2] at h ⊢
  have ev := PyProof.Rows.evalArgs_kwB (f := .type T) (Q := fun a s₁ => wpAny M A (call (.type T) ([] ++ a.pos) a.kw) Q E s₁) hall h
  unfold callWith
  refine wpAny_bind (wpAny_holding (wpAny_mono ev (fun a s₁ h₁ => wpAny_bind (wpAny_standAt ?_)) fun _ _ x => x))
  have hp2 : ((false, eval e env) :: backTo pos (starEach rest env)).any (·.1) = false := by
    show (false || (backTo pos (starEach rest env)).any (·.1)) = false
    rw [hplain]
    rfl
  simp only [hp2, hkw, Bool.or_false]
  refine wpAny_bind (wpAny_pure ?_)
  exact wpAny_bind (wpAny_mono h₁ (fun r s₂ hr => wpAny_bind (wpAny_holding (wpAny_point (wpAny_pure hr)))) fun _ _ x => x)
end
def iZipS (K : PySem.W.Frag) (b : Bool) (ta : TA) : TI := fun σ H R => ta σ H fun vs H1 => ∃ a c xs ys t1 t2, vs = [.ref a, .ref c] ∧ SqV t1 K H1 a xs ∧ SqV t2 K H1 c ys ∧ R (ItZ K b t1 t2 a c) H1
def kwsOk (b : Bool) : List Keyword → Bool
  | [] => !b
  | [⟨some nm, .Constant (.bool true) _ _, _⟩] => b && decide (nm = "strict")
  | _ => false
theorem pi_zipS {X : Cx} {e e2 : Expr} {ta : TA} {p pos tpos : Pos} {elts : List Expr} {kk : Nat} {b : Bool} {kws : List Keyword} (hb : kwsOk b kws = true) (hg : Gl X "zip") (hm : X.mg "zip" = none) (ha : PA X [e, e2] ta)
    (hs : starEach [e, e2] X.env = (false, eval e X.env) :: starEach [e2] X.env) (hpl : (backTo pos (starEach [e2] X.env)).any (·.1) = false) :
    PI X (.Tuple elts kk tpos) (.Call (.Name "zip" p) [e, e2] kws pos) (iZipS X.K b ta) := by
  refine ⟨fun pins s σ H R I h => ?_⟩
  have main : ∀ (us : List Value) (s1 : Shared), AP X pins σ (fun vs H1 => ∃ a c xs ys t1 t2, vs = [.ref a, .ref c] ∧ SqV t1 X.K H1 a xs ∧ SqV t2 X.K H1 c ys ∧ R (ItZ X.K b t1 t2 a c) H1) us s1 →
      wpAny (model X.prog X.w) X.A (call (.type "zip") us (kwOf b)) (fun v s₁ => wpAny (model X.prog X.w) X.A (pyIter v) (fun u s2 => ∃ (i1 : Addr) (fp : List Addr) (tn : Nat → Heap → Prop) (J : It) (H' : Hp), u = .ref i1 ∧ Inv X pins σ H' s2 ∧ Turn X.prog X.w X.K (.Tuple elts kk tpos) J fp i1 tn ∧ tn 0 s2.heap ∧ (∀ b ∈ fp, FpOk X pins H' b) ∧ R J H') X.xe s₁) X.xe s1 := by
    intro us s1 ⟨vs, H1, I1, r1, a, c, xs, ys, t1, t2, ex, hqx, hqy, q⟩
    subst ex
    cases r1 with
    | cons r rr =>
      cases rr with
      | cons r' rr =>
        cases rr
        cases r
        cases r'
        obtain ⟨its, rv, p1⟩ := inv_sq I1 hqx
        obtain ⟨its2, rv2, p2⟩ := inv_sq I1 hqy
        refine call_zip p1 p2 fun h' hz hTI hTO h1 h2 hsz hk => pyIter_zip hz ?_
        have I2 : Inv X pins σ H1 { s1 with heap := h' } := I1.kept (t' := s1.toks) hk
        have lt : ∀ {t : Bool} {l : Addr} {ws : Array Value}, SqAt t s1.heap l ws → l < s1.heap.objs.size := fun {t l ws} q => by
          cases t
          · obtain ⟨o, e, _⟩ := q; exact Heap.lt_size e
          · obtain ⟨o, e, _⟩ := q; exact Heap.lt_size e
        have la := lt p1
        have lb := lt p2
        refine ⟨s1.heap.objs.size + 4, [s1.heap.objs.size + 4, s1.heap.objs.size + 2, s1.heap.objs.size + 3, s1.heap.objs.size, s1.heap.objs.size + 1], _, _, H1, rfl, I2,
          turn_zipS (PySem.W.ktu_apart s1.heap.objs.size a c la lb), ⟨hz, hTI, ⟨_, _, hTO⟩, h1, h2⟩, fun c' hcm => ?_, q⟩
        have e' : c' = s1.heap.objs.size + 4 ∨ c' = s1.heap.objs.size + 2 ∨ c' = s1.heap.objs.size + 3 ∨ c' = s1.heap.objs.size ∨ c' = s1.heap.objs.size + 1 := by simpa using hcm
        have hle : s1.heap.objs.size ≤ c' := by
          rcases e' with z | z | z | z | z
          · rw [z]; exact Nat.le_add_right _ _
          · rw [z]; exact Nat.le_add_right _ _
          · rw [z]; exact Nat.le_add_right _ _
          · rw [z]; exact Nat.le_refl _
          · rw [z]; exact Nat.le_add_right _ _
        exact I1.fpOk hle (I1.hok.fresh hle)
  match kws, hb with
  | [], hb =>
    have : b = false := by simpa [kwsOk] using hb
    subst this
    refine Call_ (ld_blt I hg hm PyProof.Rows.boot_zip (PyProof.Rows.callWith_type1 (thn (ha.run pos pins s σ H _ I h) fun us s1 hq => ?_) hs hpl))
    exact main us s1 hq
  | [⟨some nm, .Constant (.bool true) k2 p2, p3⟩], hb =>
    simp only [kwsOk, Bool.and_eq_true, decide_eq_true_eq] at hb
    obtain ⟨hb, hn⟩ := hb
    subst hb hn
    have kw1 : (backToKw pos (keywordEach [⟨some "strict", Expr.Constant (.bool true) k2 p2, p3⟩] X.env)).filterMap (·.1) = [("strict" : Str)] := rfl
    refine wpAny_Call_Name_kw (ld_blt I hg hm PyProof.Rows.boot_zip (callWith_typeKw (thn (ha.run pos pins s σ H _ I h) fun us s1 hq => ?_) hs hpl rfl rfl))
    obtain ⟨vs, H1, I1, r1, q1⟩ := hq
    refine PyProof.Rows.kws_cons (thn (pe_bl.run pins s1 σ H1 (fun v H' => v = .bl true ∧ H' = H1) I1 ⟨rfl, rfl⟩) fun u s2 ⟨v, H2, I2, rv, ev, eH⟩ => PyProof.Rows.kws_nil ?_)
    rw [kw1]
    subst ev eH
    obtain rfl : u = Value.bool true := rv
    exact main us s2 ⟨vs, _, I2, r1, q1⟩
end ZS
set_option Elab.async false
set_option linter.all false
set_option maxRecDepth 100000
set_option maxHeartbeats 4000000
/-! enumerate of a list or a tuple. -/
namespace ZS
open PySem PySem.Spec L2
open PyProof.Rows (Call_)
section
variable {prog : Program} {w : World} {A : Around} {E : Value → Shared → Prop} {s : Shared}
theorem en_item {t : Bool} {e it l : Addr} {i : Nat} {items : Array Value} {x old : Value} {Q : Value → Shared → Prop}
    (he : IsEnum s.heap e it i old) (hit : ItAt t s.heap it l i) (hl : SqAt t s.heap l items) (hx : items[i]? = some x) (hne : e ≠ it)
    (hQ : ∀ h', IsEnumOut h' e it ((i : Int) + 1) x s.heap.objs.size → ItAt t h' it l (i + 1) →
      h'.get? s.heap.objs.size = some { cls := .type "tuple", data := .seq #[.int i s.toks, x] } → h'.objs.size = s.heap.objs.size + 1 →
      (∀ b o, b ≠ e → b ≠ it → s.heap.get? b = some o → h'.get? b = some o) → Q (.ref s.heap.objs.size) { s with heap := h', toks := s.toks + 1 }) :
    wpAny (model prog w) A (Builtin.«enumerate.__next__» ⟨[.ref e], []⟩) (fun fin s' => ∃ v, fin = .done (.ret v) ∧ Q v s') E s := by
  obtain ⟨hp, g, d, tk, os⟩ := s
  show wpAny _ _ (field (.ref e) 2 >>= _) _ _ _
  refine wpAny_bind (wpAny_field he rfl (x := .ref it) rfl ?_)
  refine wpAny_bind (nx_item hit hl hx fun h₁ hit₁ hs₁ => ?_)
  replace hs₁ : Heap.SameBut it hp h₁ := hs₁
  have he₁ : IsEnum h₁ e it i old := (hs₁.2 e hne).trans he
  show wpAny _ _ (field (.ref e) 3 >>= _) _ _ ⟨h₁, g, d, tk, os⟩
  refine wpAny_bind (wpAny_field he₁ rfl (x := rawInt i) rfl ?_)
  show wpAny _ _ (field (.ref e) 4 >>= _) _ _ ⟨h₁, g, d, tk, os⟩
  refine wpAny_bind (wpAny_field he₁ rfl (x := .none) rfl ?_)
  show wpAny _ _ (mkInt i >>= _) _ _ ⟨h₁, g, d, tk, os⟩
  refine wpAny_bind (wpAny_mkInt ?_)
  show wpAny _ _ (setField (.ref e) 3 (rawInt ((i : Int) + 1)) >>= _) _ _ ⟨h₁, g, d, tk + 1, os⟩
  refine wpAny_bind (wpAny_setField_rec he₁ (by simp) fun h₂ he₂ hs₂ => ?_)
  replace hs₂ : Heap.SameBut e h₁ h₂ := hs₂
  replace he₂ : IsEnum h₂ e it ((i : Int) + 1) old := he₂
  show wpAny _ _ (setField (.ref e) 4 .none >>= _) _ _ ⟨h₂, g, d, tk + 1, os⟩
  refine wpAny_bind (wpAny_setField_rec he₂ (by simp) fun h₃ he₃ hs₃ => ?_)
  replace hs₃ : Heap.SameBut e h₂ h₃ := hs₃
  replace he₃ : IsEnum h₃ e it ((i : Int) + 1) old := he₃
  show wpAny _ _ (newTuple [.int i tk, x] >>= _) _ _ ⟨h₃, g, d, tk + 1, os⟩
  refine wpAny_bind (wpAny_newTuple ?_)
  have he₄ : IsEnum (h₃.push { cls := .type "tuple", data := .seq #[.int i tk, x] }) e it ((i : Int) + 1) old := Heap.get?_push_of_some _ he₃
  generalize hh₄ : h₃.push { cls := .type "tuple", data := .seq #[.int i tk, x] } = h₄ at he₄
  have hsz : h₃.objs.size = hp.objs.size := by rw [hs₃.1, hs₂.1, hs₁.1]
  have hel : e < hp.objs.size := Heap.lt_size he
  have ht₄ : h₄.get? hp.objs.size = some { cls := .type "tuple", data := .seq #[.int i tk, x] } := by rw [← hh₄, ← hsz]; exact Heap.get?_push_size _ rfl
  have hz₄ : h₄.objs.size = hp.objs.size + 1 := by rw [← hh₄, Heap.size_push, hsz]
  have hk₄ : ∀ b o, b ≠ e → b ≠ it → hp.get? b = some o → h₄.get? b = some o := fun b o hbe hbi hb => by
    rw [← hh₄]; exact Heap.get?_push_of_some _ (hs₃.extBut b o hbe (hs₂.extBut b o hbe (hs₁.extBut b o hbi hb)))
  have hit₄ : ItAt t h₄ it l (i + 1) := hit₁.at fun o z => by
    rw [← hh₄]; exact Heap.get?_push_of_some _ (hs₃.extBut _ _ (Ne.symm hne) (hs₂.extBut _ _ (Ne.symm hne) z))
  show wpAny _ _ (Builtin.SmallTypes.ownedTupleIsFree (.ref e) >>= _) _ _ ⟨h₄, g, d, tk + 1, os⟩
  rw [hsz]
  clear hh₄ he₃ hs₃ he₂ hs₂ he₁ hs₁ hit₁ hsz h₃ h₂ h₁
  refine wpAny_bind ?_
  · unfold Builtin.SmallTypes.ownedTupleIsFree
    refine wpAny_bind (wpAny_field he₄ rfl (x := .none) rfl (wpAny_pure ?_))
    simp only [if_true]
    refine wpAny_bind (wpAny_rule ?_)
    refine wpAny_bind (wpAny_field he₄ rfl (x := old) rfl ?_)
    refine wpAny_bind (wpAny_setField_rec he₄ (by simp) fun h₅ he₅ hs₅ => ?_)
    replace hs₅ : Heap.SameBut e h₄ h₅ := hs₅
    replace he₅ : IsEnum h₅ e it ((i : Int) + 1) x := he₅
    show wpAny _ _ (Builtin.SmallTypes.ownedTupleHandOut (.ref e) (.ref hp.objs.size) >>= _) _ _ ⟨h₅, g, d, tk + 1, os⟩
    refine wpAny_bind ?_
    · unfold Builtin.SmallTypes.ownedTupleHandOut
      refine wpAny_bind (wpAny_setField_rec he₅ (by simp) fun h₆ he₆ hs₆ => ?_)
      replace hs₆ : Heap.SameBut e h₅ h₆ := hs₆
      replace he₆ : IsEnumOut h₆ e it ((i : Int) + 1) x hp.objs.size := he₆
      refine wpAny_setField_rec he₆ (by simp) fun h₇ he₇ hs₇ => ?_
      replace hs₇ : Heap.SameBut e h₆ h₇ := hs₇
      replace he₇ : IsEnumOut h₇ e it ((i : Int) + 1) x hp.objs.size := he₇
      refine wpAny_bind (wpAny_letGo (wpAny_pure ⟨_, rfl, hQ h₇ he₇ ?_ ?_ ?_ ?_⟩))
      · exact hit₄.at fun o z => hs₇.extBut _ _ (Ne.symm hne) (hs₆.extBut _ _ (Ne.symm hne) (hs₅.extBut _ _ (Ne.symm hne) z))
      · exact hs₇.extBut _ _ (Nat.ne_of_gt hel) (hs₆.extBut _ _ (Nat.ne_of_gt hel) (hs₅.extBut _ _ (Nat.ne_of_gt hel) ht₄))
      · rw [hs₇.1, hs₆.1, hs₅.1, hz₄]
      · exact fun b o hbe hbi hb => hs₇.extBut b o hbe (hs₆.extBut b o hbe (hs₅.extBut b o hbe (hk₄ b o hbe hbi hb)))
theorem pyNext_en {t : Bool} {e it l : Addr} {i : Nat} {items : Array Value} {x old : Value} {Q : Option Value → Shared → Prop}
    (he : IsEnum s.heap e it i old) (hit : ItAt t s.heap it l i) (hl : SqAt t s.heap l items) (hx : items[i]? = some x) (hne : e ≠ it)
    (hQ : ∀ h', IsEnumOut h' e it ((i : Int) + 1) x s.heap.objs.size → ItAt t h' it l (i + 1) →
      h'.get? s.heap.objs.size = some { cls := .type "tuple", data := .seq #[.int i s.toks, x] } → h'.objs.size = s.heap.objs.size + 1 →
      (∀ b o, b ≠ e → b ≠ it → s.heap.get? b = some o → h'.get? b = some o) → Q (some (.ref s.heap.objs.size)) { s with heap := h', toks := s.toks + 1 }) :
    wpAny (model prog w) A (pyNext (.ref e)) Q E s := by
  have hT : s.TypeIs (.ref e) "enumerate" := ⟨_, he, rfl⟩
  unfold pyNext
  exact wpAny_bind (wpAny_attempt (wpAny_callSpecial?_slot (name := Str.ofString "__next__") hT F.slot_enumerate_next
    (wpAny_call_entry F.slot_enumerate_next hT F.entry_enumerate_next
      (en_item he hit hl hx hne fun h' a b c d k => wpAny_pure (hQ h' a b c d k)) (F.args_enumerate_next_1 _))))
theorem pyNext_en_end {t : Bool} {e it l : Addr} {i : Nat} {items : Array Value} {old : Value} {Q : Option Value → Shared → Prop} (hh : A.handled = none)
    (he : IsEnum s.heap e it i old) (hit : ItAt t s.heap it l i) (hl : SqAt t s.heap l items) (hx : items[i]? = none)
    (hQ : ∀ h', Heap.ExtBut it s.heap h' → Q none { s with heap := h' }) : wpAny (model prog w) A (pyNext (.ref e)) Q E s := by
  have hT : s.TypeIs (.ref e) "enumerate" := ⟨_, he, rfl⟩
  unfold pyNext
  refine wpAny_bind (wpAny_attempt (wpAny_callSpecial?_slot (name := Str.ofString "__next__") hT F.slot_enumerate_next
    (wpAny_call_entry F.slot_enumerate_next hT F.entry_enumerate_next ?_ (F.args_enumerate_next_1 _))))
  show wpAny _ _ (field (.ref e) 2 >>= _) _ _ _
  refine wpAny_bind (wpAny_field he rfl (x := .ref it) rfl ?_)
  refine wpAny_bind (nx_end hh hit hl hx fun h' x he' hx' => ?_)
  obtain ⟨o, ho, hc⟩ := hx'
  refine wpAny_bind (wpAny_isInstance (T := "StopIteration") (b := true) ⟨o, ho, hc⟩ isSubtype_stop ?_)
  exact wpAny_pure (hQ _ he')
end
set_option maxHeartbeats 8000000 in
theorem meets_en (t : Bool) (l : Addr) (items : Array Value) :
    Meets (Builtin.«enumerate.__new__» ⟨[.type "enumerate", .ref l], []⟩) (fun _ R s => SqAt t s.heap l items ∧
      R (.ok (.ret (.ref (s.heap.push (itO t l)).objs.size))) { s with heap := (s.heap.push (itO t l)).push { cls := .type "enumerate", data := .fields #[.none, .bool false, .ref s.heap.objs.size, rawInt 0, .none, .none] } }) :=
  .of_wp fun prog w A R s h => by
    obtain ⟨hp, g, d, tk, os⟩ := s; obtain ⟨hl, h⟩ := h
    have hsub := sub_enumerate
    have hL : SqAt t (Shared.heap ⟨hp, g, d, tk, os⟩) l items := hl
    wp_walk using iter_at hL
    refine wpAny_stack_any fun st => wpAny_pure ?_
    split
    · rename_i c _ _ _ _ _
      cases (c == Value.type "enumerate")
      · wp_walk using iter_at hL
        exact ⟨_, rfl, h⟩
      · wp_walk using iter_at hL
        exact ⟨_, rfl, h⟩
    · wp_walk using iter_at hL
      exact ⟨_, rfl, h⟩
theorem call_en {prog : Program} {w : World} {A : Around} {E : Value → Shared → Prop} {s : Shared} {t : Bool} {l : Addr} {items : Array Value} {Q : Value → Shared → Prop} (hL : SqAt t s.heap l items)
    (h : ∀ h', IsEnum h' (s.heap.objs.size + 1) s.heap.objs.size 0 .none → ItAt t h' s.heap.objs.size l 0 → h'.objs.size = s.heap.objs.size + 2 →
      (∀ b o, s.heap.get? b = some o → h'.get? b = some o) → Q (.ref (s.heap.objs.size + 1)) { s with heap := h' }) :
    wpAny (model prog w) A (call (.type "enumerate") [.ref l]) Q E s := by
  have fr : (itO t l).isFreed = false := by cases t <;> rfl
  have hz : (s.heap.push (itO t l)).objs.size = s.heap.objs.size + 1 := Heap.size_push ..
  have he : IsEnum ((s.heap.push (itO t l)).push
      { cls := .type "enumerate", data := .fields #[.none, .bool false, .ref s.heap.objs.size, rawInt 0, .none, .none] }) (s.heap.objs.size + 1) s.heap.objs.size 0 .none := by
    have := Heap.get?_push_size (s.heap.push (itO t l))
      (o := { cls := .type "enumerate", data := .fields #[.none, .bool false, .ref s.heap.objs.size, rawInt 0, .none, .none] }) rfl
    rw [hz] at this; exact this
  have hi : ItAt t ((s.heap.push (itO t l)).push { cls := .type "enumerate", data := .fields #[.none, .bool false, .ref s.heap.objs.size, rawInt 0, .none, .none] }) s.heap.objs.size l 0 := by
    have e : ((s.heap.push (itO t l)).push { cls := .type "enumerate", data := .fields #[.none, .bool false, .ref s.heap.objs.size, rawInt 0, .none, .none] }).get? s.heap.objs.size = some (itO t l) := Heap.get?_push_of_some _ (Heap.get?_push_size _ fr)
    cases t
    · exact ⟨_, e, rfl, rfl⟩
    · exact ⟨_, e, rfl, rfl⟩
  refine callType_new F.called_enumerate (by decide) (F.typeCall_enumerate_1 _) (F.newCall_enumerate_1 _) (fun obj => F.args_object_init_2 obj _) F.entry_enumerate_new (meets_en t l items) ⟨hL, ?_⟩
  show _ ∧ _
  rw [hz]
  exact ⟨⟨_, he, rfl⟩, h _ he hi (by rw [Heap.size_push, hz]) fun b o x => Heap.get?_push_of_some _ (Heap.get?_push_of_some _ x)⟩
/-- the list or tuple at a as it stands at each turn, each item in a new pair -/
def ItE (K : PySem.W.Frag) (t : Bool) (a : Addr) : It :=
  ⟨fun i H => ∃ (xs : List V) (x : V), SqV t K H a xs ∧ xs[i]? = some x, fun i H v H' => ∃ T x, v = .ref T ∧ H T = none ∧ H' = upd H T (.tup [.int (i : Nat), x]) ∧ ∀ xs, SqV t K H a xs → xs[i]? = some x, fun i H => ∃ xs : List V, SqV t K H a xs ∧ xs.length ≤ i⟩
theorem turn_en {P : Program} {w : World} {K : PySem.W.Frag} {t : Bool} {elts : List Expr} {kk : Nat} {tpos : Pos} (a e it : Addr) :
    Turn P w K (.Tuple elts kk tpos) (ItE K t a) [e, it] e (fun i h => (∃ old, IsEnum h e it ((i : Nat) : Int) old) ∧ ItAt t h it a i ∧ e ≠ it) where
  mem := by simp
  obj := fun i h st b hb => by
    obtain ⟨⟨old, he⟩, hi, _⟩ := st
    obtain ⟨o, v, ho, hd⟩ := hi.ex
    have e' : b = e ∨ b = it := by simpa using hb
    rcases e' with z | z
    · rw [z]; exact ⟨_, he, fun v q => nomatch q⟩
    · rw [z]; exact ⟨o, ho, fun v q => by rw [hd] at q; cases q⟩
  keep := fun i h h' st k => let ⟨⟨old, he⟩, hi, hne⟩ := st; ⟨⟨old, k e (by simp) _ he⟩, hi.at fun o q => k it (by simp) o q, hne⟩
  item := by
    intro X hP hw hK hc i pins s σ H E I hf st hg
    subst hP hw hK
    obtain ⟨⟨old, he⟩, hit, hne⟩ := st
    obtain ⟨xs, x, hq, hx⟩ := hg
    obtain ⟨its, rv, p⟩ := inv_sq I hq
    obtain ⟨u, hu, ru⟩ := rv.get hx
    have hel : e < s.heap.objs.size := Heap.lt_size he
    have hil : it < s.heap.objs.size := by obtain ⟨_, _, q, _⟩ := hit.ex; exact Heap.lt_size q
    refine pyNext_en he hit p (x := u) (by simpa using hu) hne fun h' ho hit' hT hsz hk => ?_
    refine ⟨_, rfl, wpAny_letOwnedTupleGo_enum (s := { s with heap := h', toks := s.toks + 1 }) ho fun h'' he' sb => ?_⟩
    have hT2 : h''.get? s.heap.objs.size = some { cls := .type "tuple", data := .seq #[.int i s.toks, u] } := (sb.2 _ (Nat.ne_of_gt hel)).trans hT
    have new : ObjOk X.prog X.w (upd H s.heap.objs.size (.tup [.int (i : Nat), x])) h'' s.heap.objs.size (.tup [.int (i : Nat), x]) :=
      ⟨by show 2 ≤ sizeLine; decide, [.int i s.toks, u], .cons ⟨_, rfl⟩ (.cons ru .nil), ⟨_, hT2, rfl, _, rfl⟩⟩
    have I1 : Inv X pins σ (upd H s.heap.objs.size (.tup [.int (i : Nat), x])) { s with heap := h'', toks := s.toks + 1 } :=
      I.turnedNew (ch := [e, it]) (fun b ob hb q => (sb.2 b (fun z => hb (by simp [z]))).trans (hk b ob (fun z => hb (by simp [z])) (fun z => hb (by simp [z])) q)) hf (Nat.le_refl _) new
    refine ⟨.ref s.heap.objs.size, _, I1, rfl, ⟨_, x, rfl, I.hok.fresh (Nat.le_refl _), rfl, fun ys hy => by rw [sq_inj I hy hq]; exact hx⟩, ⟨⟨u, ?_⟩, hit'.at fun o q => (sb.2 it (Ne.symm hne)).trans q, hne⟩, fun b hb => ?_⟩
    · have e1 : ((i + 1 : Nat) : Int) = (i : Int) + 1 := by omega
      rw [e1]; exact he'
    · have hb' : b < s.heap.objs.size := by
        have e' : b = e ∨ b = it := by simpa using hb
        rcases e' with z | z
        · rw [z]; exact hel
        · rw [z]; exact hil
      rw [upd_ne (Nat.ne_of_lt hb')]
      exact (hf b hb).1
  done := by
    intro X hP hw hK hc i pins s σ H E I hf st hg
    subst hP hw hK
    obtain ⟨⟨old, he⟩, hit, hne⟩ := st
    obtain ⟨xs, hq, hx⟩ := hg
    obtain ⟨its, rv, p⟩ := inv_sq I hq
    obtain ⟨f0, f1, f2, f3, f4, f5⟩ := hf it (by simp)
    have hl := rv.length
    exact pyNext_en_end (I.ok.hd hc) he hit p (by simp; omega) fun h' eb => ⟨rfl, I.turned (t' := s.toks) (fun b o hb q => eb b o hb q) f0 f1 f3 f4 f5⟩
  self := fun A i s Q E st h => let ⟨⟨_, he⟩, _⟩ := st; wpAny_pyIter_enum he h
theorem walk_en {K : PySem.W.Frag} {t : Bool} {a : Addr} {xs : List V} : Walk (ItE K t a) xs.length (fun H => SqV t K H a xs) (YPair (fun i => some (.int (i : Nat))) (fun i => xs[i]?)) := by
  refine ⟨fun i _ hi q => ⟨xs, xs[i], q, by simp [hi]⟩, fun _ q => ⟨xs, q, Nat.le_refl _⟩, fun i H v H' _ q y => ?_⟩
  obtain ⟨T, x, h1, h2, h3, h4⟩ := y
  exact ⟨T, .int (i : Nat), x, h1, h2, h3, rfl, h4 xs q⟩
def iEn (K : PySem.W.Frag) (ta : TA) : TI := fun σ H R => ta σ H fun vs H1 => ∃ a xs t, vs = [.ref a] ∧ SqV t K H1 a xs ∧ R (ItE K t a) H1
theorem pi_en {X : Cx} {e : Expr} {ta : TA} {p pos tpos : Pos} {elts : List Expr} {kk : Nat} (hg : Gl X "enumerate") (hm : X.mg "enumerate" = none) (ha : PA X [e] ta) (hs : starEach [e] X.env = [(false, eval e X.env)]) :
    PI X (.Tuple elts kk tpos) (.Call (.Name "enumerate" p) [e] [] pos) (iEn X.K ta) := by
  refine ⟨fun pins s σ H R I h => ?_⟩
  refine Call_ (ld_blt I hg hm PyProof.Rows.boot_enumerate (PyProof.Rows.callWith_type1 (thn (ha.run pos pins s σ H _ I h) fun us s1 ⟨vs, H1, I1, r1, q1⟩ => ?_) hs rfl))
  obtain ⟨a, xs, t, ex, hq, q⟩ := q1
  subst ex
  cases r1 with
  | cons r rr =>
    cases rr
    cases r
    obtain ⟨its, rv, p'⟩ := inv_sq I1 hq
    refine call_en p' fun h' he hit hsz hk => wpAny_pyIter_enum he ?_
    have I2 : Inv X pins σ H1 { s1 with heap := h' } := I1.kept (t' := s1.toks) hk
    refine ⟨s1.heap.objs.size + 1, [s1.heap.objs.size + 1, s1.heap.objs.size], _, _, H1, rfl, I2, turn_en a (s1.heap.objs.size + 1) s1.heap.objs.size, ⟨⟨.none, he⟩, hit, Nat.succ_ne_self _⟩, fun b hb => ?_, q⟩
    have e' : b = s1.heap.objs.size + 1 ∨ b = s1.heap.objs.size := by simpa using hb
    have hle : s1.heap.objs.size ≤ b := by
      rcases e' with z | z
      · rw [z]; exact Nat.le_add_right _ _
      · rw [z]; exact Nat.le_refl _
    exact I1.fpOk hle (I1.hok.fresh hle)
end ZS
set_option Elab.async false
set_option linter.all false
set_option maxHeartbeats 4000000
/-! Targets, what is walked, comprehensions. -/
namespace Rm
open PySem PySem.Spec L2

section
variable {K : PySem.W.Frag} {C : Nat → Addr} {Wx : WX} {S : Sig} {X : Cx} {n : Nat}

/-- a step between statements: the slots' own lists may have been changed, made, let go -/
structure ExtS (W : Wd) (H : Hp) (W' : Wd) (H' : Hp) : Prop where
  kp : ∀ b u, H b = some u → (∀ n, W.r n ≠ some b) → (∀ i, W.o i ≠ some b) → H' b = some u
  th : ∀ b u, H b = some u → ∃ u', H' b = some u'
  F : ∀ a, W.F a → W'.F a
  Fn : ∀ a, W'.F a → W.F a ∨ (∃ i, W.o i = some a) ∨ H a = none
  r : ∀ n a, W.r n = some a → W'.r n = some a
  rn : ∀ n a, W'.r n = some a → W.r n = some a ∨ (∃ i, W.o i = some a) ∨ H a = none
  on : ∀ i a, W'.o i = some a → (∃ j, W.o j = some a) ∨ H a = none
theorem Ext.toS {W W' : Wd} {H H' : Hp} (x : Ext W H W' H') (ho : W'.o = W.o) : ExtS W H W' H' :=
  ⟨fun b u h n _ => x.kp b u h n, x.th, x.F, fun a h => (x.Fn a h).elim .inl fun z => .inr (.inr z), x.r, fun m a h => (x.rn m a h).elim .inl fun z => .inr (.inr z), fun i a h => .inl ⟨i, by rw [← ho]; exact h⟩⟩
theorem ExtS.refl (W : Wd) (H : Hp) : ExtS W H W H := (Ext.refl W H).toS rfl
theorem ExtS.free {W W' : Wd} {H H' : Hp} (X : ExtS W H W' H') {a : Addr} (h : H' a = none) : H a = none := by
  cases q : H a with
  | none => rfl
  | some u =>
    obtain ⟨u', e⟩ := X.th a u q
    rw [h] at e
    cases e
theorem ExtS.trans {W W' W2 : Wd} {H H' H2 : Hp} (x : ExtS W H W' H') (y : ExtS W' H' W2 H2) : ExtS W H W2 H2 where
  kp := fun b u h n o => y.kp b u (x.kp b u h n o) (fun m e => by
    rcases x.rn m b e with z | ⟨i, z⟩ | z
    · exact n m z
    · exact o i z
    · rw [h] at z
      cases z) fun m e => by
    rcases x.on m b e with ⟨i, z⟩ | z
    · exact o i z
    · rw [h] at z
      cases z
  th := fun b u h => by
    obtain ⟨u1, h1⟩ := x.th b u h
    exact y.th b u1 h1
  F := fun a h => y.F a (x.F a h)
  Fn := fun a h => by
    rcases y.Fn a h with z | ⟨i, z⟩ | z
    · exact x.Fn a z
    · rcases x.on i a z with z | z
      · exact .inr (.inl z)
      · exact .inr (.inr z)
    · exact .inr (.inr (x.free z))
  r := fun m a h => y.r m a (x.r m a h)
  rn := fun m a h => by
    rcases y.rn m a h with z | ⟨i, z⟩ | z
    · exact x.rn m a z
    · rcases x.on i a z with z | z
      · exact .inr (.inl z)
      · exact .inr (.inr z)
    · exact .inr (.inr (x.free z))
  on := fun i a h => by
    rcases y.on i a h with ⟨j, z⟩ | z
    · exact x.on j a z
    · exact .inr (x.free z)
theorem kept_of {W W' : Wd} {H H' : Hp} (S : Sep W H) (x : ExtS W H W' H') : ∀ a u, H a = some u → (W.F a ∨ ∀ us, u ≠ .lst us) → H' a = some u := fun a u e q => x.kp a u e (fun n z => by
    obtain ⟨us, e'⟩ := S.rl n a z
    rcases q with q | q
    · exact S.Fr a n q z
    · rw [e] at e'
      exact q us (Option.some.inj e')) fun n z => by
    obtain ⟨us, e'⟩ := S.ol n a z
    rcases q with q | q
    · exact S.Fo a n q z
    · rw [e] at e'
      exact q us (Option.some.inj e')
/-- what no list of the store or of a slot is stays: enough for values -/
structure ExtP (W : Wd) (H : Hp) (W' : Wd) (H' : Hp) : Prop where
  kp : ∀ a u, H a = some u → (W.F a ∨ ∀ us, u ≠ .lst us) → H' a = some u
  F : ∀ a, W.F a → W'.F a
  r : ∀ n a, W.r n = some a → W'.r n = some a
theorem ExtS.toP {W W' : Wd} {H H' : Hp} (S : Sep W H) (x : ExtS W H W' H') : ExtP W H W' H' := ⟨kept_of S x, x.F, x.r⟩
theorem Den.extP {W W' : Wd} {H H' : Hp} {v : V} {p : PV} (x : ExtP W H W' H') (d : Den K C W H v p) : Den K C W' H' v p := d.mono x.F x.r x.kp
theorem Dens.extP {W W' : Wd} {H H' : Hp} {v : List V} {p : List PV} (x : ExtP W H W' H') (d : Dens K C W H v p) : Dens K C W' H' v p := d.mono x.F x.r x.kp
theorem Den.extS {W W' : Wd} {H H' : Hp} {v : V} {p : PV} (S : Sep W H) (x : ExtS W H W' H') (d : Den K C W H v p) : Den K C W' H' v p := d.mono x.F x.r (kept_of S x)
theorem Dens.extS {W W' : Wd} {H H' : Hp} {v : List V} {p : List PV} (S : Sep W H) (x : ExtS W H W' H') (d : Dens K C W H v p) : Dens K C W' H' v p := d.mono x.F x.r (kept_of S x)

/-! ### slots -/
structure Slots (K : PySem.W.Frag) (C : Nat → Addr) (W : Wd) (H : Hp) (σ : St) (fr : Frm) : Prop where
  len : fr.length = σ.length
  slt : ∀ (i : Nat) (p : PV), fr[i]? = some (some (.val p)) → ∃ v, σ[i]? = some (some v) ∧ Den K C W H v p
  own : ∀ (i : Nat) (xs : List PV), fr[i]? = some (some (.own xs)) → ∃ a us, σ[i]? = some (some (.ref a)) ∧ W.o i = some a ∧ H a = some (.lst us) ∧ Dens K C W H us xs
theorem Rel.slots {W : Wd} {H : Hp} {σ : St} {fr : Frm} {st : Sto} (R : Rel K C W H σ fr st) : Slots K C W H σ fr := ⟨R.len, R.slt, R.own⟩
/-- the own lists that the frame speaks of -/
def onlyO (W : Wd) (fr : Frm) : Nat → Option Addr := fun i => match fr[i]? with
  | some (some (.own _)) => W.o i
  | _ => none
theorem onlyO_le {W : Wd} {fr : Frm} {i : Nat} {a : Addr} (h : onlyO W fr i = some a) : W.o i = some a ∧ ∃ xs, fr[i]? = some (some (.own xs)) := by
  unfold onlyO at h
  split at h
  · exact ⟨h, _, by assumption⟩
  · cases h
theorem Slots.rel {W : Wd} {H : Hp} {σ : St} {fr : Frm} {st : Sto} (s : Slots K C W H σ fr) (S : RelS K C W H st) : Rel K C (W.withO (onlyO W fr)) H σ fr st where
  s := S.less fun _ _ e => (onlyO_le e).1
  len := s.len
  slt := fun i p e => by
    obtain ⟨v, h1, h2⟩ := s.slt i p e
    exact ⟨v, h1, h2.withO⟩
  own := fun i xs e => by
    obtain ⟨a, us, h1, h2, h3, h4⟩ := s.own i xs e
    refine ⟨a, us, h1, ?_, h3, h4.withO⟩
    show onlyO W fr i = some a
    unfold onlyO
    rw [e]
    exact h2
  on := fun i a e => (onlyO_le e).2
theorem Slots.ext {W W' : Wd} {H H' : Hp} {σ : St} {fr : Frm} (s : Slots K C W H σ fr) (S : Sep W H) (x : Ext W H W' H') (ho : W'.o = W.o) : Slots K C W' H' σ fr where
  len := s.len
  slt := fun i p h => by
    obtain ⟨v, h1, h2⟩ := s.slt i p h
    exact ⟨v, h1, h2.ext S x⟩
  own := fun i xs h => by
    obtain ⟨a, us, h1, h2, h3, h4⟩ := s.own i xs h
    exact ⟨a, us, h1, by rw [ho]; exact h2, x.kp a _ h3 fun n z => S.ro n i a z h2, h4.ext S x⟩
theorem Slots.set {W : Wd} {H : Hp} {σ : St} {fr : Frm} {v : V} {p : PV} {i : Nat} (s : Slots K C W H σ fr) (d : Den K C W H v p) (hi : i < fr.length) : Slots K C W H (σ.set i (some v)) (fr.set i (some (.val p))) where
  len := by rw [List.length_set, List.length_set]; exact s.len
  slt := fun j q h => by
    by_cases e : i = j
    · subst e
      rw [List.getElem?_set_self hi] at h
      cases h
      exact ⟨v, List.getElem?_set_self (by rw [← s.len]; exact hi), d⟩
    · rw [List.getElem?_set_ne e] at h
      rw [List.getElem?_set_ne e]
      exact s.slt j q h
  own := fun j xs h => by
    by_cases e : i = j
    · subst e
      rw [List.getElem?_set_self hi] at h
      cases h
    · rw [List.getElem?_set_ne e] at h
      rw [List.getElem?_set_ne e]
      exact s.own j xs h
theorem Slots.drop {W : Wd} {H : Hp} {σ : St} {fr : Frm} {i : Nat} (s : Slots K C W H σ fr) : Slots K C W H (σ.set i none) (fr.set i none) where
  len := by rw [List.length_set, List.length_set]; exact s.len
  slt := fun j q h => by
    by_cases e : i = j
    · subst e
      by_cases hi : i < fr.length
      · rw [List.getElem?_set_self hi] at h
        cases h
      · rw [List.getElem?_eq_none (by rw [List.length_set]; omega)] at h
        cases h
    · rw [List.getElem?_set_ne e] at h
      rw [List.getElem?_set_ne e]
      exact s.slt j q h
  own := fun j xs h => by
    by_cases e : i = j
    · subst e
      by_cases hi : i < fr.length
      · rw [List.getElem?_set_self hi] at h
        cases h
      · rw [List.getElem?_eq_none (by rw [List.length_set]; omega)] at h
        cases h
    · rw [List.getElem?_set_ne e] at h
      rw [List.getElem?_set_ne e]
      exact s.own j xs h
theorem Slots.wipe {W : Wd} {H : Hp} {σ : St} {fr : Frm} (s : Slots K C W H σ fr) : ∀ vs : List Nat, Slots K C W H (wipe σ vs) (wipeF fr vs)
  | [] => s
  | v :: vs => (Slots.wipe s vs).drop

/-! ### targets -/
def lenT : T → Nat
  | .cons _ l => lenT l + 1
  | _ => 0
mutual
def gOf (K : PySem.W.Frag) : T → TG
  | .nm i => gName i
  | .tp l => gTup K (lenT l) (gsOf K l)
  | _ => fun _ _ _ _ => False
def gsOf (K : PySem.W.Frag) : T → TGs
  | .nil => gNil
  | .cons a l => gCons (gOf K a) (gsOf K l)
  | _ => fun _ _ _ _ => False
end
/-- the slots that a target stores -/
def slotsT : T → List Nat
  | .nm i => [i]
  | .tp l => slotsT l
  | .nil => []
  | .cons a l => slotsT a ++ slotsT l
def mT (c : Ctx) : Expr → T → Bool
  | .Name x _, .nm i => decide (c.N[i]? = some x) && ((match c.sc.names.lookup x with | some .local => true | _ => false) || (c.fn x && (match c.sc.names.lookup x with | some .cell => true | _ => false)))
  | .Tuple es _ _, .tp l => mTs c es l
  | _, _ => false
where mTs (c : Ctx) : List Expr → T → Bool
  | [], .nil => true
  | e :: es, .cons a l => noStar e && mT c e a && mTs c es l
  | _, _ => false
theorem asgEach_cons {e : Expr} {es : List Expr} {env : Env} (h : noStar e = true) : assignEach (e :: es) env = (false, assign e env) :: assignEach es env := by
  cases e <;> first | rfl | cases h
theorem mTs_plain {c : Ctx} {env : Env} : ∀ {es : List Expr} {l : T}, mT.mTs c es l = true → (assignEach es env).length = lenT l ∧ (assignEach es env).findIdx? (·.1) = none
  | [], .nil, _ => ⟨rfl, rfl⟩
  | e :: es, .cons a l, h => by
    simp only [mT.mTs, Bool.and_eq_true] at h
    obtain ⟨⟨h1, h2⟩, h3⟩ := h
    obtain ⟨q1, q2⟩ := mTs_plain (env := env) h3
    rw [asgEach_cons h1]
    refine ⟨?_, ?_⟩
    · show (assignEach es env).length + 1 = lenT l + 1
      rw [q1]
    · rw [List.findIdx?_cons, q2]
      rfl
  | [], .cons _ _, h => by simp [mT.mTs] at h
  | [], .nm _, h => by simp [mT.mTs] at h
  | [], .tp _, h => by simp [mT.mTs] at h
  | _ :: _, .nil, h => by simp [mT.mTs] at h
  | _ :: _, .nm _, h => by simp [mT.mTs] at h
  | _ :: _, .tp _, h => by simp [mT.mTs] at h
mutual
theorem pg_mT {c : Ctx} (hN : X.N = c.N) (hs : X.env.scope = c.sc) (hf : ∀ x, c.fn x = true → X.fn x = true) (hc : X.calm = true) (nd : c.N.Nodup) : ∀ {t : T} {e : Expr}, mT c e t = true → PG X e (gOf X.K t)
  | .nm i, e, h => by
    cases e <;> try (simp only [mT] at h; cases h; done)
    rename_i x pos
    simp only [mT, Bool.and_eq_true, decide_eq_true_eq, Bool.or_eq_true] at h
    obtain ⟨h1, h2⟩ := h
    simp only [gOf]
    have e1 : X.N[i]? = some x := by rw [hN]; exact h1
    rcases h2 with h2 | ⟨h2, h3⟩
    · have l : X.env.scope.names.lookup x = some .local := by
        rw [hs]
        split at h2
        · assumption
        · cases h2
      exact pg_name (by rw [hN]; exact nd) e1 (.inl l) (.inr l)
    · have l : X.env.scope.names.lookup x = some .cell := by
        rw [hs]
        split at h3
        · assumption
        · cases h3
      exact pg_name (by rw [hN]; exact nd) e1 (.inr l) (.inl (hf x h2))
  | .tp l, e, h => by
    cases e <;> try (simp only [mT] at h; cases h; done)
    simp only [mT] at h
    simp only [gOf]
    exact pg_tup hc (pgs_mT hN hs hf hc nd h) (mTs_plain h).1 (mTs_plain h).2
  | .nil, e, h => by cases e <;> (simp only [mT] at h; cases h)
  | .cons _ _, e, h => by cases e <;> (simp only [mT] at h; cases h)
theorem pgs_mT {c : Ctx} (hN : X.N = c.N) (hs : X.env.scope = c.sc) (hf : ∀ x, c.fn x = true → X.fn x = true) (hc : X.calm = true) (nd : c.N.Nodup) : ∀ {t : T} {es : List Expr}, mT.mTs c es t = true → PGs X es (gsOf X.K t)
  | .nil, es, h => by
    cases es
    · simp only [gsOf]; exact pgs_nil
    · simp only [mT.mTs] at h; cases h
  | .cons a l, es, h => by
    cases es
    · simp only [mT.mTs] at h; cases h
    · simp only [mT.mTs, Bool.and_eq_true] at h
      simp only [gsOf]
      exact pgs_cons (pg_mT hN hs hf hc nd h.1.2) (pgs_mT hN hs hf hc nd h.2) (by rw [asgEach_cons h.1.1]; rfl)
  | .nm _, es, h => by cases es <;> (simp only [mT.mTs] at h; cases h)
  | .tp _, es, h => by cases es <;> (simp only [mT.mTs] at h; cases h)
end
mutual
/-- a target that takes a value: the slots then hold what the small language says; other slots stay -/
theorem asg_ok {W : Wd} {H : Hp} : ∀ {t : T} {v : V} {p : PV} {σ : St} {fr fr' : Frm} {Q : St → Hp → Prop}, asg t p fr = some fr' → Den K C W H v p → Slots K C W H σ fr →
    (∀ σ', Slots K C W H σ' fr' → σ'.length = σ.length → (∀ j, j ∉ slotsT t → σ'[j]? = σ[j]?) → Q σ' H) → gOf K t v σ H Q
  | .nm i, v, p, σ, fr, fr', Q, h, d, s, q => by
    simp only [asg] at h
    split at h
    · rename_i hi
      cases h
      simp only [gOf]
      refine q _ (s.set d hi) (by rw [List.length_set]) fun j hj => ?_
      simp only [slotsT, List.mem_singleton] at hj
      exact List.getElem?_set_ne (Ne.symm hj)
    · cases h
  | .tp l, v, p, σ, fr, fr', Q, h, d, s, q => by
    cases p <;> try (simp only [asg] at h; cases h; done)
    rename_i t xs
    cases t <;> try (simp only [asg] at h; cases h; done)
    simp only [asg] at h
    simp only [gOf]
    cases d with
    | tup sq ds => exact ⟨_, _, rfl, sq, by rw [ds.len]; exact asgL_len h, asgL_ok h ds s fun σ' h1 h2 h3 => q σ' h1 h2 (by simpa only [slotsT] using h3)⟩
  | .nil, _, _, _, _, _, _, h, _, _, _ => by simp only [asg] at h; cases h
  | .cons _ _, _, _, _, _, _, _, h, _, _, _ => by simp only [asg] at h; cases h
theorem asgL_ok {W : Wd} {H : Hp} : ∀ {t : T} {vs : List V} {ps : List PV} {σ : St} {fr fr' : Frm} {Q : St → Hp → Prop}, asgL t ps fr = some fr' → Dens K C W H vs ps → Slots K C W H σ fr →
    (∀ σ', Slots K C W H σ' fr' → σ'.length = σ.length → (∀ j, j ∉ slotsT t → σ'[j]? = σ[j]?) → Q σ' H) → gsOf K t vs σ H Q
  | .nil, vs, ps, σ, fr, fr', Q, h, d, s, q => by
    cases ps
    · simp only [asgL] at h
      cases h
      cases d
      simp only [gsOf]
      exact ⟨rfl, q σ s rfl fun _ _ => rfl⟩
    · simp only [asgL] at h; cases h
  | .cons a l, vs, ps, σ, fr, fr', Q, h, d, s, q => by
    cases ps
    · simp only [asgL] at h; cases h
    rename_i x xs
    simp only [asgL, Option.bind_eq_some_iff] at h
    obtain ⟨fr1, h1, h2⟩ := h
    cases d with
    | cons d1 d2 =>
      simp only [gsOf]
      refine ⟨_, _, rfl, asg_ok h1 d1 s fun σ1 s1 l1 k1 => asgL_ok h2 d2 s1 fun σ2 s2 l2 k2 => q σ2 s2 (l2.trans l1) fun j hj => ?_⟩
      simp only [slotsT, List.mem_append, not_or] at hj
      rw [k2 j hj.2, k1 j hj.1]
  | .nm _, _, ps, _, _, _, _, h, _, _, _ => by cases ps <;> (simp only [asgL] at h; cases h)
  | .tp _, _, ps, _, _, _, _, h, _, _, _ => by cases ps <;> (simp only [asgL] at h; cases h)
theorem asgL_len : ∀ {t : T} {ps : List PV} {fr fr' : Frm}, asgL t ps fr = some fr' → ps.length = lenT t
  | .nil, ps, _, _, h => by
    cases ps
    · rfl
    · simp only [asgL] at h; cases h
  | .cons a l, ps, _, _, h => by
    cases ps
    · simp only [asgL] at h; cases h
    · simp only [asgL, Option.bind_eq_some_iff] at h
      obtain ⟨fr1, h1, h2⟩ := h
      simp only [lenT, List.length_cons, asgL_len h2]
  | .nm _, ps, _, _, h => by cases ps <;> (simp only [asgL] at h; cases h)
  | .tp _, ps, _, _, h => by cases ps <;> (simp only [asgL] at h; cases h)
end
theorem wipe_eq {σ σ' : St} : ∀ {vs : List Nat}, σ'.length = σ.length → (∀ j, j ∉ vs → σ'[j]? = σ[j]?) → wipe σ' vs = wipe σ vs := by
  intro vs hl h
  have key : ∀ (vs : List Nat) (τ : St) (j : Nat), (wipe τ vs)[j]? = if j ∈ vs ∧ j < τ.length then some none else τ[j]? := by
    intro vs
    induction vs with
    | nil => intro τ j; simp [wipe]
    | cons v vs ih =>
      intro τ j
      unfold wipe
      rw [List.getElem?_set]
      rw [wipe_length, ih]
      by_cases e : v = j
      · subst e
        simp only [if_true, List.mem_cons, true_or, true_and]
        by_cases hv : v < τ.length
        · simp [hv]
        · simp [hv]
      · rw [if_neg e]
        simp only [List.mem_cons]
        by_cases hj : j ∈ vs
        · simp [hj]
        · simp [hj, Ne.symm e]
  apply List.ext_getElem?
  intro j
  rw [key, key, hl]
  by_cases hj : j ∈ vs
  · by_cases hl2 : j < σ.length
    · rw [if_pos ⟨hj, hl2⟩, if_pos ⟨hj, hl2⟩]
    · rw [if_neg (fun z => hl2 z.2), if_neg (fun z => hl2 z.2)]
      rw [List.getElem?_eq_none (by omega), List.getElem?_eq_none (by omega)]
  · rw [if_neg (fun z => hj z.1), if_neg (fun z => hj z.1), h j hj]

/-! ### what is walked -/
theorem Ext.all {W : Wd} {H H' : Hp} (k : ∀ b u, H b = some u → H' b = some u) : Ext W H W H' := ⟨fun b u e _ => k b u e, fun b u e => ⟨u, k b u e⟩, fun _ h => h, fun _ h => .inl h, fun _ _ h => h, fun _ _ h => .inl h⟩
theorem RelS.all {W : Wd} {H H' : Hp} {st : Sto} (R : RelS K C W H st) (k : ∀ b u, H b = some u → H' b = some u) (s : Sep W H') (z : Sz H') : RelS K C W H' st := ⟨s, z, fun n xs e => by
  obtain ⟨b, us, h1, h2, h3⟩ := R.str n xs e
  exact ⟨b, us, h1, k _ _ h2, h3.ext R.sep (Ext.all k)⟩, R.rn⟩
structure WalkOk (K : PySem.W.Frag) (C : Nat → Addr) (W : Wd) (H : Hp) (J : It) (xs : List PV) : Prop where
  sz : xs.length ≤ sizeLine
  ex : ∃ G Y, Walk J xs.length G Y ∧ (∀ W' H', ExtP W H W' H' → G H') ∧
    ∀ W' H' i x H2, ExtP W H W' H' → Sep W' H' → Sz H' → Y i H' x H2 → ∃ p, xs[i]? = some p ∧ Den K C W' H2 x p ∧ (∀ b u, H' b = some u → H2 b = some u) ∧ Sep W' H2 ∧ Sz H2
theorem WalkOk.list {W : Wd} {H : Hp} {a : Addr} {us : List V} {xs : List PV} (S : Sep W H) (z : Sz H) (f : W.F a) (h : H a = some (.lst us)) (d : Dens K C W H us xs) : WalkOk K C W H (Itl K a) xs := by
  refine ⟨by rw [← d.len]; exact z a us (.inl (.inl h)), _, _, by rw [← d.len]; exact walk_list (K := K) (a := a) (xs := us), fun W' H' x => SqL.of (x.kp _ _ h (.inl f)), fun W' H' i x H2 xx S' z' y => ?_⟩
  obtain ⟨rfl, e⟩ := y
  obtain ⟨p, h1, h2⟩ := (d.extP xx).getV e
  exact ⟨p, h1, h2, fun _ _ e => e, S', z'⟩
theorem WalkOk.tup {W : Wd} {H : Hp} {a : Addr} {us : List V} {xs : List PV} (S : Sep W H) (z : Sz H) (h : SqT K H a us) (hz : us.length ≤ sizeLine) (d : Dens K C W H us xs) : WalkOk K C W H (Itt K a) xs := by
  refine ⟨by rw [← d.len]; exact hz, _, _, by rw [← d.len]; exact walk_tup (K := K) (a := a) (xs := us), fun W' H' x => ?_, fun W' H' i x H2 xx S' z' y => ?_⟩
  · rcases h with (h | ⟨o, h⟩) | h
    · exact .inl (.inl (x.kp _ _ h (.inr fun us e => nomatch e)))
    · exact .inl (.inr ⟨o, x.kp _ _ h (.inr fun us e => nomatch e)⟩)
    · exact .inr h
  · obtain ⟨rfl, e⟩ := y
    obtain ⟨p, h1, h2⟩ := (d.extP xx).getV e
    exact ⟨p, h1, h2, fun _ _ e => e, S', z'⟩
theorem WalkOk.range {W : Wd} {H : Hp} {lo : Int} {m : Nat} (hm : m ≤ sizeLine) : WalkOk K C W H (Itr lo m) (rangeF lo m) := by
  have hl : (rangeF lo m).length = m := by simp [rangeF]
  refine ⟨by rw [hl]; exact hm, fun _ => True, fun i H x H' => i < m ∧ H' = H ∧ x = .int (lo + i), ?_, fun _ _ _ => trivial, fun W' H' i x H2 xx S' z' y => ?_⟩
  · rw [hl]
    exact ⟨fun _ _ hi _ => hi, fun _ _ => Nat.le_refl _, fun i _ _ _ hi _ y => ⟨hi, y⟩⟩
  · obtain ⟨hi, rfl, rfl⟩ := y
    exact ⟨.int (lo + i), by simp [rangeF, hi], .int _, fun _ _ e => e, S', z'⟩
theorem Sz.tup2 {H : Hp} {a : Addr} {x y : V} (z : Sz H) (h : H a = none) : Sz (upd H a (.tup [x, y])) := fun b us q => by
  by_cases e : b = a
  · subst e
    have h2 : 2 ≤ sizeLine := by decide
    rcases q with (q | ⟨o, q⟩) | (q | ⟨o, q⟩) <;> rw [upd_same] at q <;> cases q
    exact h2
  · rcases q with (q | ⟨o, q⟩) | (q | ⟨o, q⟩) <;> rw [upd_ne e] at q
    · exact z b us (.inl (.inl q))
    · exact z b us (.inl (.inr ⟨o, q⟩))
    · exact z b us (.inr (.inl q))
    · exact z b us (.inr (.inr ⟨o, q⟩))
theorem enumF_get : ∀ (xs : List PV) (k i : Nat), (enumF k xs)[i]? = xs[i]?.map fun x => .seq true [.int ((k + i : Nat) : Int), x]
  | [], k, i => by simp [enumF]
  | x :: xs, k, 0 => by simp [enumF]
  | x :: xs, k, i + 1 => by
    simp only [enumF, List.getElem?_cons_succ]
    rw [enumF_get xs (k + 1) i]
    congr 1
    funext y
    rw [show k + 1 + i = k + (i + 1) by omega]
theorem enumF_len : ∀ (xs : List PV) (k : Nat), (enumF k xs).length = xs.length
  | [], _ => rfl
  | _ :: xs, k => congrArg Nat.succ (enumF_len xs (k + 1))
/-- what a walk over a list or tuple that stays asks -/
def SqStay (K : PySem.W.Frag) (W : Wd) (H : Hp) (t : Bool) (a : Addr) (us : List V) : Prop := match t with
  | true => SqT K H a us ∧ us.length ≤ sizeLine
  | false => W.F a ∧ H a = some (.lst us)
theorem SqStay.sq {W : Wd} {H : Hp} {t : Bool} {a : Addr} {us : List V} (h : SqStay K W H t a us) : ZS.SqV t K H a us := by
  cases t
  · exact SqL.of h.2
  · exact h.1
theorem SqStay.ext {W W' : Wd} {H H' : Hp} {t : Bool} {a : Addr} {us : List V} (x : ExtP W H W' H') (h : SqStay K W H t a us) : ZS.SqV t K H' a us := by
  cases t
  · exact SqL.of (x.kp _ _ h.2 (.inl h.1))
  · rcases h.1 with (h | ⟨o, h⟩) | h
    · exact .inl (.inl (x.kp _ _ h (.inr fun us e => nomatch e)))
    · exact .inl (.inr ⟨o, x.kp _ _ h (.inr fun us e => nomatch e)⟩)
    · exact .inr h
theorem SqStay.len {W : Wd} {H : Hp} {t : Bool} {a : Addr} {us : List V} (z : Sz H) (h : SqStay K W H t a us) : us.length ≤ sizeLine := by
  cases t
  · exact z a us (.inl (.inl h.2))
  · exact h.2
theorem WalkOk.enum {W : Wd} {H : Hp} {t : Bool} {a : Addr} {us : List V} {xs : List PV} (S : Sep W H) (z : Sz H) (h : SqStay K W H t a us) (d : Dens K C W H us xs) : WalkOk K C W H (ZS.ItE K t a) (enumF 0 xs) := by
  refine ⟨by rw [enumF_len, ← d.len]; exact h.len z, _, _, by rw [enumF_len, ← d.len]; exact ZS.walk_en (K := K) (t := t) (a := a) (xs := us), fun W' H' x => h.ext x, fun W' H' i x H2 xx S' z' y => ?_⟩
  obtain ⟨T, u, w, rfl, hT, rfl, e1, e2⟩ := y
  cases e1
  obtain ⟨p, h1, h2⟩ := (d.extP xx).getV e2
  refine ⟨.seq true [.int (i : Nat), p], by rw [enumF_get, h1]; simp, ?_, fun b u e => by rw [upd_ne (ne_of_none e hT)]; exact e, S'.new hT, z'.tup2 hT⟩
  exact .tup (.inl (.inl upd_same)) (.cons (.int _) (.cons (h2.ext S' (Ext.new hT)) .nil))
theorem zipF_get : ∀ (xs ys : List PV) (i : Nat) (x y : PV), xs[i]? = some x → ys[i]? = some y → (zipF xs ys)[i]? = some (.seq true [x, y])
  | [], _, i, _, _, h, _ => by simp at h
  | _ :: _, [], i, _, _, _, h => by simp at h
  | a :: xs, b :: ys, 0, x, y, h1, h2 => by
    simp at h1 h2
    subst h1 h2
    simp [zipF]
  | a :: xs, b :: ys, i + 1, x, y, h1, h2 => by
    simp only [zipF, List.getElem?_cons_succ] at h1 h2 ⊢
    exact zipF_get xs ys i x y h1 h2
theorem zipF_len : ∀ (xs ys : List PV), (zipF xs ys).length = min xs.length ys.length
  | [], ys => by simp [zipF]
  | _ :: _, [] => by simp [zipF]
  | x :: xs, y :: ys => by
    simp only [zipF, List.length_cons, zipF_len xs ys]
    omega
theorem WalkOk.zip {W : Wd} {H : Hp} {s ta tb : Bool} {a c : Addr} {us ws : List V} {xs ys : List PV} (S : Sep W H) (z : Sz H) (h1 : SqStay K W H ta a us) (h2 : SqStay K W H tb c ws) (d1 : Dens K C W H us xs) (d2 : Dens K C W H ws ys) (hs : s = true → xs.length = ys.length) : WalkOk K C W H (ZS.ItZ K s ta tb a c) (zipF xs ys) := by
  have l1 := h1.len z
  have e1 := d1.len
  have e2 := d2.len
  refine ⟨by rw [zipF_len]; omega, fun H => ZS.SqV ta K H a us ∧ ZS.SqV tb K H c ws, _, by rw [zipF_len, ← e1, ← e2]; exact ZS.walk_zipS (K := K) (a := a) (c := c) (xs := us) (ys := ws) (fun h => by rw [e1, e2]; exact hs h), fun W' H' x => ⟨h1.ext x, h2.ext x⟩, fun W' H' i x H2 xx S' z' y => ?_⟩
  obtain ⟨T, u, w, rfl, hT, rfl, e1, e2⟩ := y
  obtain ⟨p, g1, g2⟩ := (d1.extP xx).getV e1
  obtain ⟨q, g3, g4⟩ := (d2.extP xx).getV e2
  refine ⟨.seq true [p, q], zipF_get _ _ _ _ _ g1 g3, ?_, fun b u e => by rw [upd_ne (ne_of_none e hT)]; exact e, S'.new hT, z'.tup2 hT⟩
  exact .tup (.inl (.inl upd_same)) (.cons (g2.ext S' (Ext.new hT)) (.cons (g4.ext S' (Ext.new hT)) .nil))
end

section
variable (K : PySem.W.Frag) (C : Nat → Addr) (Wx : WX)
def tI (f : Frm → Sto → Out (List PV)) : TI := fun σ H R => ∃ W fr st, Rel K C W H σ fr st ∧
  Post (f fr st) (fun xs st' => ∀ W' H' J, Ext W H W' H' → W'.o = W.o → Rel K C W' H' σ fr st' → WalkOk K C W' H' J xs → R J H') (EndX K C Wx W H σ fr)
end
end Rm
set_option Elab.async false
set_option linter.all false
set_option maxHeartbeats 4000000
/-! Which term stands for which expression; a term's promise is the machine's. First: rule by rule. -/
namespace Rm
open PySem PySem.Spec L2

/-- a test's reading -/
def evT (S : Sig) (e : E) (fr : Frm) (st : Sto) : Out Bool := (evE S e fr st).bind fun p st => .of (truF (deref fr st p)) st

section
variable {S : Sig}
theorem evE_neg (a : E) : evE S (.neg a) = fun fr st => (evE S a fr st).bind fun p st => .of (negF p) st := by funext fr st; simp only [evE]
theorem evE_not (a : E) : evE S (.not a) = fun fr st => (evE S a fr st).bind fun p st => (Out.of (truF (deref fr st p)) st).bind fun b st => .ok (.bl (!b)) st := by funext fr st; simp only [evE]
theorem evE_bin (op : Op) (a b : E) : evE S (.bin op a b) = fun fr st => (evE S a fr st).bind fun x st => (evE S b fr st).bind fun y st => .of (binF op (deref fr st x) (deref fr st y)) st := by funext fr st; simp only [evE]
theorem evE_cmp (op : Cop) (a b : E) : evE S (.cmp op a b) = fun fr st => (evE S a fr st).bind fun x st => (evE S b fr st).bind fun y st => (Out.of (cmpF op (deref fr st x) (deref fr st y)) st).bind fun k st => .ok (.bl k) st := by funext fr st; simp only [evE]
end
section
variable {C : Nat → Addr} {Wx : WX} {S : Sig} {X : Cx} {n : Nat}

/-! ### two readings in a row -/
theorem tE_then {f : Frm → Sto → Out PV} {g : PV → Frm → Sto → Out PV} {σ : St} {H : Hp} {Q : VK} (h : tE X.K C Wx (fun fr st => (f fr st).bind fun p st => g p fr st) σ H Q) :
    tE X.K C Wx f σ H fun v H1 => ∃ W fr st p, Rel X.K C W H1 σ fr st ∧ DenM X.K C W H1 v p ∧ Post (g p fr st) (fun z st' => EndOk X.K C W H1 σ fr st' z Q) (EndX X.K C Wx W H1 σ fr) := by
  obtain ⟨W, fr, st, R, h⟩ := h
  refine ⟨W, fr, st, R, h.bind.imp (fun p st1 h1 W1 H1 v x o R1 D => ⟨W1, fr, st1, p, R1, D, ?_⟩) fun _ _ _ z => z⟩
  exact h1.imp (fun _ _ z => EndOk.shift z x o) fun _ _ _ z => EndX.shift z x o
theorem tFr_then {f : Frm → Sto → Out PV} {g : PV → Frm → Sto → Out PV} {σ : St} {H : Hp} {Q : VK} (h : tFr X.K C Wx (fun fr st => (f fr st).bind fun p st => g p fr st) σ H Q) :
    tE X.K C Wx f σ H fun v H1 => ∃ W fr st p, Rel X.K C W H1 σ fr st ∧ DenM X.K C W H1 v p ∧ Post (g p fr st) (fun z st' => EndFr X.K C W H1 σ fr st' z Q) (EndX X.K C Wx W H1 σ fr) := by
  obtain ⟨W, fr, st, R, h⟩ := h
  refine ⟨W, fr, st, R, h.bind.imp (fun p st1 h1 W1 H1 v x o R1 D => ⟨W1, fr, st1, p, R1, D, ?_⟩) fun _ _ _ z => z⟩
  exact h1.imp (fun _ _ z => EndFr.shift z x o) fun _ _ _ z => EndX.shift z x o
/-- .. of two -/
theorem tFr_two {f g : Frm → Sto → Out PV} {k : PV → PV → Frm → Sto → Out PV} {σ : St} {H : Hp} {Q : VK} (h : tFr X.K C Wx (fun fr st => (f fr st).bind fun x st => (g fr st).bind fun y st => k x y fr st) σ H Q) :
    tE X.K C Wx f σ H fun v H1 => tE X.K C Wx g σ H1 fun u H2 => ∃ W fr st x y, Rel X.K C W H2 σ fr st ∧ DenM X.K C W H2 v x ∧ DenM X.K C W H2 u y ∧ Post (k x y fr st) (fun z st' => EndFr X.K C W H2 σ fr st' z Q) (EndX X.K C Wx W H2 σ fr) := by
  obtain ⟨W, fr, st, R, h⟩ := h
  refine ⟨W, fr, st, R, h.bind.imp (fun p st1 h1 W1 H1 v x o R1 D => ⟨W1, fr, st1, R1, h1.bind.imp (fun q st2 h2 W2 H2 u x2 o2 R2 D2 => ⟨W2, fr, st2, p, q, R2, DenM.ext R1.s.sep x2 o2 D, D2, ?_⟩) fun _ _ _ z => EndX.shift z x o⟩) fun _ _ _ z => z⟩
  exact h2.imp (fun _ _ z => EndFr.shift z (x.trans x2) (o2.trans o)) fun _ _ _ z => EndX.shift z (x.trans x2) (o2.trans o)
theorem tE_two {f g : Frm → Sto → Out PV} {k : PV → PV → Frm → Sto → Out PV} {σ : St} {H : Hp} {Q : VK} (h : tE X.K C Wx (fun fr st => (f fr st).bind fun x st => (g fr st).bind fun y st => k x y fr st) σ H Q) :
    tE X.K C Wx f σ H fun v H1 => tE X.K C Wx g σ H1 fun u H2 => ∃ W fr st x y, Rel X.K C W H2 σ fr st ∧ DenM X.K C W H2 v x ∧ DenM X.K C W H2 u y ∧ Post (k x y fr st) (fun z st' => EndOk X.K C W H2 σ fr st' z Q) (EndX X.K C Wx W H2 σ fr) := by
  obtain ⟨W, fr, st, R, h⟩ := h
  refine ⟨W, fr, st, R, h.bind.imp (fun p st1 h1 W1 H1 v x o R1 D => ⟨W1, fr, st1, R1, h1.bind.imp (fun q st2 h2 W2 H2 u x2 o2 R2 D2 => ⟨W2, fr, st2, p, q, R2, DenM.ext R1.s.sep x2 o2 D, D2, ?_⟩) fun _ _ _ z => EndX.shift z x o⟩) fun _ _ _ z => z⟩
  exact h2.imp (fun _ _ z => EndOk.shift z (x.trans x2) (o2.trans o)) fun _ _ _ z => EndX.shift z (x.trans x2) (o2.trans o)
/-- an end by a plain truth -/
theorem end_bl {W : Wd} {H : Hp} {σ : St} {fr : Frm} {st : Sto} {b : Bool} {Q : VK} (R : Rel X.K C W H σ fr st) (h : EndOk X.K C W H σ fr st (.bl b) Q) : Q (.bl b) H := h W H _ (.refl _ _) rfl R (.inl (.bl b))
theorem end_int {W : Wd} {H : Hp} {σ : St} {fr : Frm} {st : Sto} {b : Int} {Q : VK} (R : Rel X.K C W H σ fr st) (h : EndOk X.K C W H σ fr st (.int b) Q) : Q (.int b) H := h W H _ (.refl _ _) rfl R (.inl (.int b))
theorem end_t {W : Wd} {H : Hp} {σ : St} {fr : Frm} {st : Sto} {b : Bool} {Q : Bool → Hp → Prop} (R : Rel X.K C W H σ fr st) (h : EndT X.K C W H σ fr st b Q) : Q b H := h W H (.refl _ _) rfl R

/-- a fresh telling is enough -/
theorem PE_fresh {a : Expr} {f : Frm → Sto → Out PV} (h : PE X a (tFr X.K C Wx f)) : PE X a (tE X.K C Wx f) := PE_imp h fun σ H Q _ q => by
  have := tE_fr q
  obtain ⟨W, fr, st, R, p⟩ := this
  refine ⟨W, fr, st, R, p.imp (fun z st' e => ⟨fun W' H' v hp x o R' D _ => e.1 W' H' v hp x o R' D, fun W' H' a us xs hp x o R' e1 D n1 n2 n3 hn _ => e.2 W' H' a us xs hp x o R' e1 D n1 n2 n3 hn⟩) fun _ _ _ z => z⟩

theorem PT_plain {a : Expr} {e : E} (h : PE X a (tE X.K C Wx (evE S e))) (he : ∀ whole, isTrue a X.env whole = (do let v ← whole; standAt a.pos; holding [v] (truthy v))) : PT X a (tT X.K C Wx (evT S e)) := by
  refine PT_imp (pt_truth h he) fun σ H Q _ q => ?_
  obtain ⟨W, fr, st, R, q⟩ := q
  refine ⟨W, fr, st, R, q.bind.imp (fun p st1 h1 W1 H1 v x o R1 D => ?_) fun _ _ _ z => z⟩
  obtain ⟨k, hk, h2⟩ := h1.of
  exact ⟨k, truF_ok (R1.deref D) hk, fun _ => h2 W1 H1 x o R1⟩

/-! ### names, constants -/
theorem pe_rv {x : Str} {pos : Pos} {i : Nat} (hN : X.N[i]? = some x) (hv : Vis X.env.scope x) (h1 : (x == ("__debug__" : Str)) = false) (h2 : (x == ("__classdict__" : Str)) = false) : PE X (.Name x pos) (tE X.K C Wx (evE S (.var i))) := by
  refine PE_imp (pe_var hN hv h1 h2) fun σ H Q _ q => ?_
  obtain ⟨W, fr, st, R, q⟩ := q
  simp only [evE] at q
  split at q
  · rename_i p hp
    obtain ⟨v, e, d⟩ := R.slt i p hp
    exact ⟨v, e, fun _ => q W H v (.refl _ _) rfl R (.inl d)⟩
  · rename_i xs hp
    obtain ⟨a, us, e, o, _⟩ := R.own i xs hp
    exact ⟨_, e, fun _ => q W H _ (.refl _ _) rfl R (.inr ⟨a, i, rfl, rfl, o⟩)⟩
  · exact q.elim
theorem pe_rg {x : Str} {pos : Pos} {k : Nat} {p : PV} {u : Value} {v : V} (gl : Gl X x) (h1 : (x == ("__debug__" : Str)) = false) (hm : X.mg x = some u) (r : RelV v u) (hg : S.glb[k]? = some p) (hd : ∀ W H, Den X.K C W H v p) : PE X (.Name x pos) (tE X.K C Wx (evE S (.glb k))) := by
  refine PE_imp (pe_glob gl hm r h1) fun σ H Q _ q => ?_
  obtain ⟨W, fr, st, R, q⟩ := q
  simp only [evE, hg, Out.of_some] at q
  exact fun _ => q W H v (.refl _ _) rfl R (.inl (hd W H))
def constOk : Const → PV → Bool
  | .none, .non => true
  | .bool b, .bl b' => b == b'
  | .int i, .int j => decide (i = j)
  | .str x, .str y => decide (x = y)
  | _, _ => false
theorem pe_rc {k : Const} {j : Nat} {pos : Pos} {p : PV} (h : constOk k p = true) : PE X (.Constant k j pos) (tE X.K C Wx (evE S (.cst p))) := by
  cases k <;> cases p <;> simp only [constOk, reduceCtorEq] at h
  · refine PE_imp pe_non fun σ H Q _ ⟨W, fr, st, R, q⟩ => ?_
    simp only [evE] at q
    exact fun _ => q W H _ (.refl _ _) rfl R (.inl .non)
  · rename_i b b'
    obtain rfl : b = b' := by simpa using h
    refine PE_imp pe_bl fun σ H Q _ ⟨W, fr, st, R, q⟩ => ?_
    simp only [evE] at q
    exact fun _ => q W H _ (.refl _ _) rfl R (.inl (.bl b))
  · rename_i b b'
    obtain rfl : b = b' := by simpa using h
    refine PE_imp pe_int fun σ H Q _ ⟨W, fr, st, R, q⟩ => ?_
    simp only [evE] at q
    exact fun _ => q W H _ (.refl _ _) rfl R (.inl (.int b))
  · rename_i b b'
    obtain rfl : b = b' := by simpa using h
    refine PE_imp pe_str fun σ H Q _ ⟨W, fr, st, R, q⟩ => ?_
    simp only [evE] at q
    exact fun _ => q W H _ (.refl _ _) rfl R (.inl (.str b))

/-! ### operators -/
theorem pe_rneg {a : Expr} {pos : Pos} {e : E} (ha : PE X a (tE X.K C Wx (evE S e))) : PE X (.UnaryOp .USub a pos) (tE X.K C Wx (evE S (.neg e))) := by
  refine PE_imp (pe_un un_neg ha) fun σ H Q _ q => ?_
  rw [evE_neg] at q
  obtain ⟨W, fr, st, R, q⟩ := tE_then q
  refine ⟨W, fr, st, R, q.imp (fun p st1 k W1 H1 v x o R1 D => ?_) fun _ _ _ z => z⟩
  obtain ⟨W2, fr2, st2, p2, R2, D2, hp⟩ := k W1 H1 v x o R1 D
  obtain ⟨z, hz, hp⟩ := hp.of
  cases p2 <;> simp only [negF, reduceCtorEq] at hz
  cases hz
  have D3 := D2.den rfl
  cases D3
  exact ⟨_, rfl, fun _ => end_int R2 hp⟩
theorem pe_rnot {a : Expr} {pos : Pos} {e : E} (ha : PE X a (tE X.K C Wx (evE S e))) : PE X (.UnaryOp .Not a pos) (tE X.K C Wx (evE S (.not e))) := by
  refine PE_imp (pe_notT ha) fun σ H Q _ q => ?_
  rw [evE_not] at q
  obtain ⟨W, fr, st, R, q⟩ := tE_then q
  refine ⟨W, fr, st, R, q.imp (fun p st1 k W1 H1 v x o R1 D => ?_) fun _ _ _ z => z⟩
  obtain ⟨W2, fr2, st2, p2, R2, D2, hp⟩ := k W1 H1 v x o R1 D
  obtain ⟨b, hb, h3⟩ := hp.bind.of
  exact ⟨b, truF_ok (R2.deref D2) hb, fun _ => end_bl R2 h3⟩
theorem pt_rnot {a : Expr} {pos : Pos} {e : E} (ha : PT X a (tT X.K C Wx (evT S e))) : PT X (.UnaryOp .Not a pos) (tT X.K C Wx (evT S (.not e))) := by
  refine PT_imp (pt_not ha) fun σ H Q _ q => ?_
  obtain ⟨W, fr, st, R, q⟩ := q
  refine ⟨W, fr, st, R, ?_⟩
  simp only [evT, evE] at q ⊢
  have q1 := q.bind.bind
  cases h : evE S e fr st with
  | bad => rw [h] at q1; exact q1
  | exc c p st1 => rw [h] at q1; exact q1
  | ok p st1 =>
    rw [h] at q1
    simp only [Out.bind_ok]
    have q2 : Post (Out.of (truF (Rm.deref fr st1 p)) st1) _ _ := Post.bind q1
    obtain ⟨b, hb, h3⟩ := q2.of
    rw [hb]
    exact fun W1 H1 x o R1 _ => h3 W1 H1 x o R1
theorem pe_rbin {a b : Expr} {pos : Pos} {op : Op} {e f : E} (ha : PE X a (tE X.K C Wx (evE S e))) (hb : PE X b (tE X.K C Wx (evE S f))) : PE X (.BinOp a (opA op) b pos) (tFr X.K C Wx (evE S (.bin op e f))) := by
  refine PE_imp (pe_op (op_binF (C := C) op) ha hb) fun σ H Q _ q => ?_
  rw [evE_bin] at q
  obtain ⟨W, fr, st, R, q⟩ := tFr_two q
  refine ⟨W, fr, st, R, q.imp (fun p st1 k W1 H1 v x o R1 D => ?_) fun _ _ _ z => z⟩
  obtain ⟨W2, fr2, st2, R2, k⟩ := k W1 H1 v x o R1 D
  refine ⟨W2, fr2, st2, R2, k.imp (fun p2 st3 k2 W3 H3 u x3 o3 R3 D3 => ?_) fun _ _ _ z => z⟩
  obtain ⟨W4, fr4, st4, px, py, R4, Dx, Dy, hp⟩ := k2 W3 H3 u x3 o3 R3 D3
  obtain ⟨z, hz, g⟩ := hp.of
  have pl : plainV z = true := by
    cases op <;> (cases hx : Rm.deref fr4 st4 px <;> cases hy : Rm.deref fr4 st4 py <;> rw [hx, hy] at hz <;> simp only [binF, reduceCtorEq] at hz) <;> first
      | (cases hz; rfl)
      | (split at hz <;> first | (cases hz; rfl) | cases hz)
  exact ⟨W4, _, _, z, R4.deref Dx, R4.deref Dy, hz, g.gv R4 pl⟩

def noSet : Expr → Bool
  | .Set _ _ _ => false
  | _ => true
theorem noSet_ok {b : Expr} {op : CmpOp} (h : noSet b = true) : behindInMarks op b = false := by
  cases b <;> first | rfl | cases h
theorem pe_rcmp {a b : Expr} {pos : Pos} {op : Cop} {e f : E} (hu : X.A.units + 65 < cLine) (hm : noSet b = true) (ha : PE X a (tE X.K C Wx (evE S e))) (hb : PE X b (tE X.K C Wx (evE S f))) :
    PE X (.Compare a [copA op] [b] pos) (tE X.K C Wx (evE S (.cmp op e f))) ∧ PT X (.Compare a [copA op] [b] pos) (tT X.K C Wx (evT S (.cmp op e f))) := by
  refine ⟨PE_imp (pe_cmpR (op_cmpF (C := C) hu op) ha hb (noSet_ok hm)) fun σ H Q _ q => ?_, PT_imp (pt_cmpR (op_cmpF (C := C) hu op) ha hb (noSet_ok hm)) fun σ H Q _ q => ?_⟩
  · rw [evE_cmp] at q
    obtain ⟨W, fr, st, R, q⟩ := tE_two q
    refine ⟨W, fr, st, R, q.imp (fun p st1 k W1 H1 v x o R1 D => ?_) fun _ _ _ z => z⟩
    obtain ⟨W2, fr2, st2, R2, k⟩ := k W1 H1 v x o R1 D
    refine ⟨W2, fr2, st2, R2, k.imp (fun p2 st3 k2 W3 H3 u x3 o3 R3 D3 => ?_) fun _ _ _ z => z⟩
    obtain ⟨W4, fr4, st4, px, py, R4, Dx, Dy, hp⟩ := k2 W3 H3 u x3 o3 R3 D3
    obtain ⟨z, hz, g⟩ := hp.bind.of
    exact ⟨W4, _, _, z, R4.deref Dx, R4.deref Dy, hz, fun _ => end_bl R4 g⟩
  · obtain ⟨W, fr, st, R, q⟩ := q
    simp only [evT, evE] at q
    refine ⟨W, fr, st, R, q.bind.bind.imp (fun p st1 h1 W1 H1 v x o R1 D => ⟨W1, fr, st1, R1, h1.bind.imp (fun p2 st2 h2 W2 H2 u x2 o2 R2 D2 => ?_) fun _ _ _ z => EndX.shift z x o⟩) fun _ _ _ z => z⟩
    obtain ⟨z, hz, g⟩ := h2.bind.of
    refine ⟨W2, _, _, z, R2.deref (DenM.ext R1.s.sep x2 o2 D), R2.deref D2, hz, z, rfl, fun _ => ?_⟩
    exact g W2 H2 (x.trans x2) (o2.trans o) R2
end
end Rm
set_option Elab.async false
set_option linter.all false
set_option maxHeartbeats 4000000
/-! Rule by rule, the second part: chains, and, or, choices, displays, places, slices, built-ins, isinstance. -/
namespace Rm
open PySem PySem.Spec L2
section
variable {S : Sig}
theorem evE_chn (o1 o2 : Cop) (a b c : E) : evE S (.chn o1 o2 a b c) = fun fr st => (evE S a fr st).bind fun x st => (evE S b fr st).bind fun y st => (Out.of (cmpF o1 (deref fr st x) (deref fr st y)) st).bind fun k st =>
      if k = true then (evE S c fr st).bind fun z st => (Out.of (cmpF o2 (deref fr st y) (deref fr st z)) st).bind fun k st => .ok (.bl k) st else .ok (.bl false) st := by funext fr st; simp only [evE]
theorem evE_sub (a b : E) : evE S (.sub a b) = fun fr st => (evE S a fr st).bind fun x st => (evE S b fr st).bind fun y st => .of (idxF (deref fr st x) y) st := by funext fr st; simp only [evE]
theorem evE_rev (a : E) : evE S (.rev a) = fun fr st => (evE S a fr st).bind fun x st => .of (revF (deref fr st x)) st := by funext fr st; simp only [evE]
theorem evE_idx (a x : E) : evE S (.idx a x) = fun fr st => (evE S a fr st).bind fun v st => (Out.of (lstF (deref fr st v)) st).bind fun _ st => (evE S x fr st).bind fun y st => .of (idxM (deref fr st y) (deref fr st v)) st := by funext fr st; simp only [evE]
theorem evE_cnt (a x : E) : evE S (.cnt a x) = fun fr st => (evE S a fr st).bind fun v st => (Out.of (lstF (deref fr st v)) st).bind fun _ st => (evE S x fr st).bind fun y st => .of (cntM (deref fr st y) (deref fr st v)) st := by funext fr st; simp only [evE]
theorem evE_isi (a : E) (ts : List Ty) : evE S (.isi a ts) = fun fr st => (evE S a fr st).bind fun x st => (Out.of (isiAny S (deref fr st x) ts) st).bind fun k st => .ok (.bl k) st := by funext fr st; simp only [evE]
end
section
variable {C : Nat → Addr} {Wx : WX} {S : Sig} {X : Cx} {n : Nat}

theorem pe_rchn {a b d : Expr} {pos : Pos} {o1 o2 : Cop} {e f g : E} (hu : X.A.units + 65 < cLine) (hm1 : noSet b = true) (hm2 : noSet d = true) (ha : PE X a (tE X.K C Wx (evE S e))) (hb : PE X b (tE X.K C Wx (evE S f))) (hd : PE X d (tE X.K C Wx (evE S g))) :
    PE X (.Compare a [copA o1, copA o2] [b, d] pos) (tE X.K C Wx (evE S (.chn o1 o2 e f g))) ∧ PT X (.Compare a [copA o1, copA o2] [b, d] pos) (tT X.K C Wx (evT S (.chn o1 o2 e f g))) := by
  have m1 : ∀ {op : CmpOp}, behindInMarks op b = false := fun {op} => noSet_ok hm1
  have m2 : ∀ {op : CmpOp}, behindInMarks op d = false := fun {op} => noSet_ok hm2
  have hmk : lastMarks [copA o1, copA o2] [b, d] = false := by
    show behindInMarks (copA o2) d = false
    exact m2
  have key : ∀ {W : Wd} {fr : Frm} {st : Sto} {σ : St} {H : Hp} {G : Bool → Hp → Prop} {Q : VK}, (∀ k H', G k H' → Q (.bl k) H') → Rel X.K C W H σ fr st →
      Post (evE S (.chn o1 o2 e f g) fr st) (fun p st' => ∀ W' H', Ext W H W' H' → W'.o = W.o → Rel X.K C W' H' σ fr st' → ∀ b, p = .bl b → G b H') (EndX X.K C Wx W H σ fr) →
      tChain (rC X.K C o1) (rC X.K C o2) (tE X.K C Wx (evE S e)) (tE X.K C Wx (evE S f)) (tE X.K C Wx (evE S g)) σ H Q := by
    intro W fr st σ H G Q hQ R q
    rw [evE_chn] at q
    refine ⟨W, fr, st, R, q.bind.imp (fun p st1 h1 W1 H1 v x o R1 D => ⟨W1, fr, st1, R1, (Post.bind h1).imp (fun p2 st2 h2 W2 H2 u x2 o2 R2 D2 => ?_) fun _ _ _ z => EndX.shift z x o⟩) fun _ _ _ z => z⟩
    obtain ⟨k1, hk1, h3⟩ := Post.of (Post.bind h2)
    refine ⟨W2, _, _, k1, R2.deref (DenM.ext R1.s.sep x2 o2 D), R2.deref D2, hk1, k1, rfl, ?_⟩
    cases k1 with
    | false =>
      simp only [Bool.false_eq_true, if_false] at h3 ⊢
      exact hQ _ _ (h3 W2 H2 (x.trans x2) (o2.trans o) R2 _ rfl)
    | true =>
      simp only [if_true] at h3 ⊢
      refine ⟨W2, fr, st2, R2, (Post.bind h3).imp (fun p3 st3 h4 W3 H3 w x3 o3 R3 D3 => ?_) fun _ _ _ z => EndX.shift z (x.trans x2) (o2.trans o)⟩
      obtain ⟨k2, hk2, h5⟩ := Post.of (Post.bind h4)
      refine ⟨W3, _, _, k2, R3.deref (DenM.ext R2.s.sep x3 o3 D2), R3.deref D3, hk2, ?_⟩
      exact hQ _ _ (h5 W3 H3 ((x.trans x2).trans x3) (o3.trans (o2.trans o)) R3 _ rfl)
  refine ⟨PE_imp (pe_chain (op_cmpF (C := C) hu o1) (op_cmpF (C := C) hu o2) ha hb hd hmk) fun σ H Q _ q => ?_, PT_imp (pt_chain (op_cmpF (C := C) hu o1) (op_cmpF (C := C) hu o2) ha hb hd hmk) fun σ H Q _ q => ?_⟩
  · obtain ⟨W, fr, st, R, q⟩ := q
    refine key (G := fun k H' => Q (.bl k) H') (fun k H' h _ => h) R (q.imp (fun p st' z W' H' x o R' b e => ?_) fun _ _ _ z => z)
    subst e
    exact z W' H' _ x o R' (.inl (.bl b))
  · obtain ⟨W, fr, st, R, q⟩ := q
    refine key (G := fun k H' => Q k H') (fun k H' h => ⟨k, rfl, fun _ => h⟩) R ((Post.bind q).imp (fun p st' z W' H' x o R' b e => ?_) fun _ _ _ z => z)
    subst e
    exact z W' H' x o R'

/-! ### and, or -/
theorem evA_cons (a l : E) : evA S (.cons a l) = fun fr st => (evE S a fr st).bind fun x st => (Out.of (blF x) st).bind fun b st => if b = true then evA S l fr st else .ok (.bl false) st := by funext fr st; simp only [evA]
theorem evR_cons (a l : E) : evR S (.cons a l) = fun fr st => (evE S a fr st).bind fun x st => (Out.of (blF x) st).bind fun b st => if b = true then .ok (.bl true) st else evR S l fr st := by funext fr st; simp only [evR]
theorem blF_ok {W : Wd} {H : Hp} {v : V} {p : PV} {b : Bool} (d : DenM X.K C W H v p) (h : blF p = some b) : v = .bl b ∧ p = .bl b := by
  cases p <;> simp only [blF, reduceCtorEq] at h
  cases h
  have d' := d.den rfl
  cases d'
  exact ⟨rfl, rfl⟩
def AndC (C : Nat → Addr) (Wx : WX) (S : Sig) (X : Cx) (op : BoolOp) (es : List Expr) (f : Frm → Sto → Out PV) : Prop :=
  ∀ pos, PE X (.BoolOp op es pos) (tE X.K C Wx f) ∧ PW X (.BoolOp op es pos) (tT X.K C Wx fun fr st => (f fr st).bind fun p st => .of (truF (deref fr st p)) st)
theorem PW_imp {e : Expr} {t t' : TT} (h : PW X e t) (k : ∀ σ H Q, Sz H → t' σ H Q → t σ H (fun v H' => Sz H' → Q v H')) : PW X e t' := by
  refine ⟨fun wh pins s σ H Q I hw => ?_⟩
  exact thn (h.run wh pins s σ H _ I (k σ H Q (Inv.sz' I) hw)) fun u s1 ⟨H1, I1, q1⟩ => ⟨H1, I1, q1 (Inv.sz' I1)⟩
theorem and_one {a : Expr} {e : E} (h : PE X a (tE X.K C Wx (evE S e)) ∧ PT X a (tT X.K C Wx (evT S e))) : AndC C Wx S X .And [a] (evA S (.cons e .nil)) := by
  intro pos
  refine ⟨PE_imp (pe_one h.1) fun σ H Q _ q => ?_, PW_imp (pw_and1 h.2) fun σ H Q _ q => ?_⟩
  · rw [evA_cons] at q
    obtain ⟨W, fr, st, R, q⟩ := q
    refine ⟨W, fr, st, R, q.bind.imp (fun p st1 h1 W1 H1 v x o R1 D _ => ?_) fun _ _ _ z => z⟩
    obtain ⟨b, hb, h2⟩ := Post.of (Post.bind h1)
    obtain ⟨rfl, rfl⟩ := blF_ok D hb
    cases b
    · exact h2 W1 H1 _ x o R1 D
    · simp only [if_true, evA] at h2
      exact h2 W1 H1 _ x o R1 D
  · obtain ⟨W, fr, st, R, q⟩ := q
    rw [evA_cons] at q
    refine ⟨W, fr, st, R, ?_⟩
    have q1 := q.bind.bind
    show Post ((evE S e fr st).bind _) _ _
    cases hh : evE S e fr st with
    | bad => rw [hh] at q1; exact q1
    | exc c p st1 => rw [hh] at q1; exact q1
    | ok p st1 =>
      rw [hh] at q1
      obtain ⟨b, hb, h2⟩ := Post.of (Post.bind (show Post ((Out.of (blF p) st1).bind _) _ _ from q1))
      cases p <;> simp only [blF, reduceCtorEq] at hb
      cases hb
      cases b
      · exact fun W1 H1 x o R1 _ => h2 W1 H1 x o R1
      · simp only [if_true, evA] at h2
        exact fun W1 H1 x o R1 _ => h2 W1 H1 x o R1
theorem or_one {a : Expr} {e : E} (h : PE X a (tE X.K C Wx (evE S e)) ∧ PT X a (tT X.K C Wx (evT S e))) : AndC C Wx S X .Or [a] (evR S (.cons e .nil)) := by
  intro pos
  refine ⟨PE_imp (pe_one h.1) fun σ H Q _ q => ?_, PW_imp (pw_or1 h.2) fun σ H Q _ q => ?_⟩
  · rw [evR_cons] at q
    obtain ⟨W, fr, st, R, q⟩ := q
    refine ⟨W, fr, st, R, q.bind.imp (fun p st1 h1 W1 H1 v x o R1 D _ => ?_) fun _ _ _ z => z⟩
    obtain ⟨b, hb, h2⟩ := Post.of (Post.bind h1)
    obtain ⟨rfl, rfl⟩ := blF_ok D hb
    cases b
    · simp only [Bool.false_eq_true, if_false, evR] at h2
      exact h2 W1 H1 _ x o R1 D
    · exact h2 W1 H1 _ x o R1 D
  · obtain ⟨W, fr, st, R, q⟩ := q
    rw [evR_cons] at q
    refine ⟨W, fr, st, R, ?_⟩
    have q1 := q.bind.bind
    show Post ((evE S e fr st).bind _) _ _
    cases hh : evE S e fr st with
    | bad => rw [hh] at q1; exact q1
    | exc c p st1 => rw [hh] at q1; exact q1
    | ok p st1 =>
      rw [hh] at q1
      obtain ⟨b, hb, h2⟩ := Post.of (Post.bind (show Post ((Out.of (blF p) st1).bind _) _ _ from q1))
      cases p <;> simp only [blF, reduceCtorEq] at hb
      cases hb
      cases b
      · simp only [Bool.false_eq_true, if_false, evR] at h2
        exact fun W1 H1 x o R1 _ => h2 W1 H1 x o R1
      · exact fun W1 H1 x o R1 _ => h2 W1 H1 x o R1
theorem and_cons {a b : Expr} {rest : List Expr} {e l : E} (h : PE X a (tE X.K C Wx (evE S e)) ∧ PT X a (tT X.K C Wx (evT S e))) (hr : AndC C Wx S X .And (b :: rest) (evA S l)) : AndC C Wx S X .And (a :: b :: rest) (evA S (.cons e l)) := by
  intro pos
  refine ⟨PE_imp (pe_and h.1 (hr pos).1) fun σ H Q _ q => ?_, PW_imp (pw_and h.2 (hr pos).2) fun σ H Q _ q => ?_⟩
  · rw [evA_cons] at q
    obtain ⟨W, fr, st, R, q⟩ := q
    refine ⟨W, fr, st, R, q.bind.imp (fun p st1 h1 W1 H1 v x o R1 D => ?_) fun _ _ _ z => z⟩
    obtain ⟨b, hb, h2⟩ := Post.of (Post.bind h1)
    obtain ⟨rfl, rfl⟩ := blF_ok D hb
    refine ⟨b, rfl, ?_⟩
    cases b
    · simp only [Bool.false_eq_true, if_false] at h2 ⊢
      exact fun _ => h2 W1 H1 _ x o R1 D
    · simp only [if_true] at h2 ⊢
      exact ⟨W1, fr, st1, R1, h2.imp (fun _ _ z W' H' v x' o' R' D' _ => z W' H' v (x.trans x') (o'.trans o) R' D') fun _ _ _ z => EndX.shift z x o⟩
  · obtain ⟨W, fr, st, R, q⟩ := q
    rw [evA_cons] at q
    refine ⟨W, fr, st, R, ?_⟩
    have q1 := q.bind.bind
    show Post ((evE S e fr st).bind _) _ _
    cases hh : evE S e fr st with
    | bad => rw [hh] at q1; exact q1
    | exc c p st1 => rw [hh] at q1; exact q1
    | ok p st1 =>
      rw [hh] at q1
      obtain ⟨b, hb, h2⟩ := Post.of (Post.bind (show Post ((Out.of (blF p) st1).bind _) _ _ from q1))
      cases p <;> simp only [blF, reduceCtorEq] at hb
      cases hb
      cases b
      · simp only [Bool.false_eq_true, if_false] at h2
        exact fun W1 H1 x o R1 _ => h2 W1 H1 x o R1
      · simp only [if_true] at h2
        intro W1 H1 x o R1
        simp only [if_true]
        refine ⟨W1, fr, st1, R1, ?_⟩
        have h3 : Post ((evA S l fr st1).bind fun p st => Out.of (truF (Rm.deref fr st p)) st) (fun b st' => EndT X.K C W H σ fr st' b Q) (EndX X.K C Wx W H σ fr) := by
          cases hl : evA S l fr st1 with
          | bad => rw [hl] at h2; exact h2
          | exc c p st2 => rw [hl] at h2; exact h2
          | ok p st2 => rw [hl] at h2; exact h2
        exact h3.imp (fun _ _ z W' H' x' o' R' _ => z W' H' (x.trans x') (o'.trans o) R') fun _ _ _ z => EndX.shift z x o
theorem or_cons {a b : Expr} {rest : List Expr} {e l : E} (h : PE X a (tE X.K C Wx (evE S e)) ∧ PT X a (tT X.K C Wx (evT S e))) (hr : AndC C Wx S X .Or (b :: rest) (evR S l)) : AndC C Wx S X .Or (a :: b :: rest) (evR S (.cons e l)) := by
  intro pos
  refine ⟨PE_imp (pe_or h.1 (hr pos).1) fun σ H Q _ q => ?_, PW_imp (pw_or h.2 (hr pos).2) fun σ H Q _ q => ?_⟩
  · rw [evR_cons] at q
    obtain ⟨W, fr, st, R, q⟩ := q
    refine ⟨W, fr, st, R, q.bind.imp (fun p st1 h1 W1 H1 v x o R1 D => ?_) fun _ _ _ z => z⟩
    obtain ⟨b, hb, h2⟩ := Post.of (Post.bind h1)
    obtain ⟨rfl, rfl⟩ := blF_ok D hb
    refine ⟨b, rfl, ?_⟩
    cases b
    · simp only [Bool.false_eq_true, if_false] at h2 ⊢
      exact ⟨W1, fr, st1, R1, h2.imp (fun _ _ z W' H' v x' o' R' D' _ => z W' H' v (x.trans x') (o'.trans o) R' D') fun _ _ _ z => EndX.shift z x o⟩
    · simp only [if_true] at h2 ⊢
      exact fun _ => h2 W1 H1 _ x o R1 D
  · obtain ⟨W, fr, st, R, q⟩ := q
    rw [evR_cons] at q
    refine ⟨W, fr, st, R, ?_⟩
    have q1 := q.bind.bind
    show Post ((evE S e fr st).bind _) _ _
    cases hh : evE S e fr st with
    | bad => rw [hh] at q1; exact q1
    | exc c p st1 => rw [hh] at q1; exact q1
    | ok p st1 =>
      rw [hh] at q1
      obtain ⟨b, hb, h2⟩ := Post.of (Post.bind (show Post ((Out.of (blF p) st1).bind _) _ _ from q1))
      cases p <;> simp only [blF, reduceCtorEq] at hb
      cases hb
      cases b
      · simp only [Bool.false_eq_true, if_false] at h2
        intro W1 H1 x o R1
        simp only [Bool.false_eq_true, if_false]
        refine ⟨W1, fr, st1, R1, ?_⟩
        have h3 : Post ((evR S l fr st1).bind fun p st => Out.of (truF (Rm.deref fr st p)) st) (fun b st' => EndT X.K C W H σ fr st' b Q) (EndX X.K C Wx W H σ fr) := by
          cases hl : evR S l fr st1 with
          | bad => rw [hl] at h2; exact h2
          | exc c p st2 => rw [hl] at h2; exact h2
          | ok p st2 => rw [hl] at h2; exact h2
        exact h3.imp (fun _ _ z W' H' x' o' R' _ => z W' H' (x.trans x') (o'.trans o) R') fun _ _ _ z => EndX.shift z x o
      · simp only [if_true] at h2
        exact fun W1 H1 x o R1 _ => h2 W1 H1 x o R1

/-! ### a choice -/
theorem pe_rite {c a b : Expr} {pos : Pos} {e f g : E} (hc : PT X c (tT X.K C Wx (evT S e))) (ha : PE X a (tE X.K C Wx (evE S f))) (hb : PE X b (tE X.K C Wx (evE S g))) : PE X (.IfExp c a b pos) (tE X.K C Wx (evE S (.ite e f g))) := by
  refine PE_imp (pe_ifExp hc ha hb) fun σ H Q _ q => ?_
  obtain ⟨W, fr, st, R, q⟩ := q
  simp only [evE] at q
  refine ⟨W, fr, st, R, ?_⟩
  have q1 := q.bind
  show Post ((evE S e fr st).bind _) _ _
  cases hh : evE S e fr st with
  | bad => rw [hh] at q1; exact q1
  | exc c p st1 => rw [hh] at q1; exact q1
  | ok p st1 =>
    rw [hh] at q1
    obtain ⟨k, hk, h2⟩ := Post.of (Post.bind (show Post ((Out.of (truF (Rm.deref fr st1 p)) st1).bind _) _ _ from q1))
    simp only [Out.bind_ok]
    rw [hk]
    intro W1 H1 x o R1
    cases k
    · simp only [Bool.false_eq_true, if_false] at h2 ⊢
      exact ⟨W1, fr, st1, R1, h2.imp (fun _ _ z W' H' v x' o' R' D' _ => z W' H' v (x.trans x') (o'.trans o) R' D') fun _ _ _ z => EndX.shift z x o⟩
    · simp only [if_true] at h2 ⊢
      exact ⟨W1, fr, st1, R1, h2.imp (fun _ _ z W' H' v x' o' R' D' _ => z W' H' v (x.trans x') (o'.trans o) R' D') fun _ _ _ z => EndX.shift z x o⟩
end
end Rm
set_option Elab.async false
set_option linter.all false
set_option maxRecDepth 100000
set_option maxHeartbeats 4000000
/-! t[::-1] of a tuple. -/
namespace ZS
open PySem PySem.Spec L2
open PyProof.Rows
open PyProof.Rows (IsTup)
open HT
section
variable {prog : Program} {w : World} {A : Around} {E : Value → Shared → Prop} {s : Shared}
theorem back_adjust (n : Nat) : Builtin.Slice.sliceAdjust none none (-1) (n : Int) = ((n : Int) - 1, -1) := rfl
theorem back_places (n : Nat) : Builtin.Slice.slicePlaces ((n : Int) - 1) (-1) (-1) = n := by
  unfold Builtin.Slice.slicePlaces
  have h1 : ¬ ((-1 : Int) > 0) := by decide
  simp only [h1, if_false]
  by_cases h : (n : Int) - 1 > -1
  · have e : ((n : Int) - 1 - -1 - 1) / (- -1) + 1 = (n : Int) := by
      rw [show (- -1 : Int) = 1 by decide, Int.ediv_one]
      omega
    simp only [h, if_true, e, Int.toNat_natCast]
  · have e : n = 0 := by omega
    subst e
    simp
theorem back_pick (xs : Array Value) : ((List.range xs.size).filterMap fun (k : Nat) => xs[(((xs.size : Int) - 1) + (k : Int) * (-1)).toNat]?).toArray = xs.toList.reverse.toArray := by
  have e : (List.range xs.size).filterMap (fun (k : Nat) => xs[(((xs.size : Int) - 1) + (k : Int) * (-1)).toNat]?) = ((List.range xs.size).map fun k => xs.size - 1 - k).filterMap (xs[·]?) := by
    rw [List.filterMap_map]
    have key : ∀ l : List Nat, (∀ k ∈ l, k < xs.size) → l.filterMap (fun (k : Nat) => xs[(((xs.size : Int) - 1) + (k : Int) * (-1)).toNat]?) = l.filterMap ((fun x => xs[x]?) ∘ fun k => xs.size - 1 - k) := by
      intro l
      induction l with
      | nil => intro _; rfl
      | cons k l ih =>
        intro hl
        have hk := hl k (List.mem_cons_self)
        have e1 : (((xs.size : Int) - 1) + (k : Int) * (-1)).toNat = xs.size - 1 - k := by omega
        rw [List.filterMap_cons, List.filterMap_cons, ih fun k h => hl k (List.mem_cons_of_mem _ h), e1]
        rfl
    exact key _ fun k hk => List.mem_range.mp hk
  rw [e, PySem.W.krv_range, List.filterMap_reverse, PySem.W.krv_all]
theorem sliceApplied_back {sl : Addr} {vs : Value} {n : Nat} {Q : Int × Int × Nat → Shared → Prop} (hs : s.heap.IsSliceOf sl .none .none vs) (ps : IsPart vs (some (-1)))
    (h : Q ((n : Int) - 1, -1, n) s) : wpAny (model prog w) A (Builtin.Slice.sliceApplied (.ref sl) (pure (n : Int))) Q E s := by
  obtain ⟨os, hos, hcs, hds⟩ := id hs
  unfold Builtin.Slice.sliceApplied Builtin.Slice.sliceFields
  refine wpAny_bind (wpAny_bind (wpAny_field hos hds (x := .none) rfl (wpAny_bind (wpAny_field hos hds (x := .none) rfl (wpAny_bind (wpAny_field hos hds (x := vs) rfl (wpAny_pure ?_)))))))
  refine wpAny_bind (slicePart_ ps ?_)
  show wpAny _ _ (if ((-1 : Int) == 0) = true then _ else _) _ _ s
  rw [if_neg (by decide)]
  refine wpAny_bind (slicePart_none (wpAny_bind (slicePart_none (wpAny_bind (wpAny_pure ?_)))))
  show wpAny _ _ (pure ((n : Int) - 1, (-1 : Int), Builtin.Slice.slicePlaces ((n : Int) - 1) (-1) (-1))) _ _ s
  rw [back_places]
  exact wpAny_pure h
theorem getItem_tuple_back {t sl : Addr} {items : Array Value} {vs : Value} {Q : Value → Shared → Prop} (ht : IsTup s.heap t items) (hs : s.heap.IsSliceOf sl .none .none vs) (ps : IsPart vs (some (-1)))
    (h : Q (.ref s.heap.objs.size) { s with heap := s.heap.push { cls := .type "tuple", data := .seq items.toList.reverse.toArray } })
    (hsz : items.size ≤ sizeLine) : wpAny (model prog w) A (getItem (.ref t) (.ref sl)) Q E s := by
  have htake : sizeOk (.seq items.toList.reverse.toArray) := by
    show items.toList.reverse.toArray.size ≤ sizeLine
    rw [List.size_toArray, List.length_reverse, Array.length_toList]
    exact hsz
  obtain ⟨os, hos, hcs, hds⟩ := id hs
  have hTs : s.TypeIs (.ref sl) "slice" := ⟨os, hos, hcs⟩
  unfold getItem
  try with_reducible refine wpAny_holding ?_
  first | refine wpAny_bind (wpAny_pure ?_) | skip
  refine wpAny_bind (wpAny_sequenceKey ht.typeIs (by decide) ?_)
  refine wpAny_bind (wpAny_callSpecial?_slot (name := Str.ofString "__getitem__") ht.typeIs PyProof.Rows.slot_tuple_getitem
    (wpAny_call_entry PyProof.Rows.slot_tuple_getitem ht.typeIs PyProof.Rows.entry_tuple_getitem ?_ (PyProof.Rows.args_tuple_getitem _ _)))
  show wpAny _ _ (Builtin.Tuple.tupleItemsOf (.ref t) >>= _) _ _ s
  refine wpAny_bind (PyProof.Rows.tupleItemsOf_ ht ?_)
  refine wpAny_bind (wpAny_typeOf hTs ?_)
  rw [if_pos (by decide)]
  refine wpAny_bind (sliceApplied_back hs ps ?_)
  have hno : ¬ ((((items.size : Int) - 1) == 0 && (-1 : Int) == 1 && items.size == items.size) = true) := by
    intro q
    rw [Bool.and_eq_true, Bool.and_eq_true] at q
    have := q.1.2
    revert this
    decide
  show wpAny _ _ (if (((items.size : Int) - 1) == 0 && (-1 : Int) == 1 && items.size == items.size) = true then _ else _) _ _ s
  rw [if_neg hno, back_pick]
  first
    | exact wpAny_bind (m := Builtin.Tuple.tupleExact _) (wpAny_newObj_type (wpAny_pure ⟨_, rfl, wpAny_pure h⟩) htake)
    | exact wpAny_bind (m := Builtin.Tuple.tupleExact _) (wpAny_newObj_type (wpAny_bind (wpAny_pure (wpAny_pure ⟨_, rfl, wpAny_pure h⟩))) htake)
    | exact wpAny_bind (wpAny_bind (m := Builtin.Tuple.tupleExact _) (wpAny_newObj_type (wpAny_pure (wpAny_pure ⟨_, rfl, wpAny_pure h⟩)) htake))
    | exact wpAny_bind (wpAny_bind (m := Builtin.Tuple.tupleExact _) (wpAny_newObj_type (wpAny_pure ⟨_, rfl, wpAny_pure h⟩) htake))
end
section
variable {X : Cx}
def tRevA (K : PySem.W.Frag) (te : TE) : TE := fun σ H Q => te σ H fun x H1 => (∃ a xs, x = .ref a ∧ SqL K H1 a xs ∧ ∀ p, H1 p = none → Q (.ref p) (upd H1 p (.lst xs.reverse))) ∨ ∃ a xs, x = .ref a ∧ SqT K H1 a xs ∧ ∀ p, H1 p = none → Q (.ref p) (upd H1 p (.tup xs.reverse))
theorem pe_revA {e : Expr} {te : TE} {k : Nat} {p1 p2 p3 pos : Pos} (he : PE X e te) : PE X (.Subscript e (.Slice none none (some (.UnaryOp .USub (.Constant (.int 1) k p1) p2)) p3) pos) (tRevA X.K te) := by
  refine ⟨fun pins s σ H Q I h => ?_⟩
  refine Subscript_ (thn (he.run pins s σ H _ I h) fun v s1 ⟨x, H1, I1, r1, q1⟩ => ?_)
  have hst : PO X (some (.UnaryOp .USub (.Constant (.int 1) k p1) p2)) (tPart (tUn (rU fun i => .int (-i)) (tC (.int 1)))) := po_some (pe_un un_neg pe_int)
  have slice : ∀ {R : Value → Shared → Prop}, (∀ s4 vs, Inv X pins σ H1 s4 → IsPart vs (some (-1)) → R (.ref s4.heap.objs.size) { s4 with heap := s4.heap.push { cls := .type "slice", data := .fields #[.none, .none, vs] } }) → wpAny (model X.prog X.w) X.A (eval (.Slice none none (some (.UnaryOp .USub (.Constant (.int 1) k p1) p2)) p3) X.env) R X.xe s1 := fun {R} hR => by
    refine wpAny_Slice (thn (po_none.run pins s1 σ H1 (fun o H2 => o = none ∧ H2 = H1) I1 ⟨rfl, rfl⟩) fun vl s2 ⟨l, H2, I2, pl, el, e2⟩ => ?_)
    subst el e2
    refine thn (po_none.run pins s2 σ H2 (fun o H3 => o = none ∧ H3 = H2) I2 ⟨rfl, rfl⟩) fun vu s3 ⟨u, H3, I3, pu, eu, e3⟩ => ?_
    subst eu e3
    refine thn (hst.run pins s3 σ H3 (fun o H4 => o = some (-1) ∧ H4 = H3) I3 ⟨1, rfl, -1, rfl, rfl, rfl⟩) fun vs s4 ⟨o, H4, I4, ps, eo, e4⟩ => ?_
    subst eo e4
    cases pl
    cases pu
    exact hR s4 vs I4 ps
  refine slice fun s4 vs I4 ps => ?_
  have I5 : Inv X pins σ H1 { s4 with heap := s4.heap.push { cls := .type "slice", data := .fields #[.none, .none, vs] } } := I4.kept (t' := s4.toks) fun b ob q => Heap.get?_push_of_some _ q
  rcases q1 with ⟨a, xs, ex, hx, q⟩ | ⟨a, xs, ex, hx, q⟩
  · subst ex
    cases r1
    obtain ⟨its, r, ht, hz⟩ := I5.list hx
    have hlen := r.length
    show wpAny (model X.prog X.w) X.A (subscriptTail e (.Slice none none (some (.UnaryOp .USub (.Constant (.int 1) k p1) p2)) p3) (.ref a) (.ref s4.heap.objs.size)) (EP X pins σ Q) X.xe { s4 with heap := s4.heap.push { cls := .type "slice", data := .fields #[.none, .none, vs] } }
    refine tail_any (ops := [.ref a, .ref s4.heap.objs.size]) ht.isList.typeIs (PySem.slot_list_getitem.lookup) ?_ (by with_unfolding_all rfl)
    refine wpAny_getItem_list_slice ht.isList (Heap.IsSliceOf.new _ .none .none vs) .none .none ps (by decide) ?_ (by rw [List.size_toArray]; omega)
    rw [PySem.W.krv_pick]
    refine ⟨.ref _, _, I5.laid (t' := s4.toks) (o := .lst xs.reverse) (fun b ob q => Heap.get?_push_of_some _ q) (Nat.le_refl _) ?_, rfl, q _ (I5.hok.fresh (Nat.le_refl _))⟩
    exact ⟨by rw [List.length_reverse]; exact hz, _, 0, r.reverse, Heap.get?_push_size _ rfl⟩
  · subst ex
    cases r1
    obtain ⟨its, r, ht, hz⟩ := I5.tuple hx
    have hlen := r.length
    show wpAny (model X.prog X.w) X.A (subscriptTail e (.Slice none none (some (.UnaryOp .USub (.Constant (.int 1) k p1) p2)) p3) (.ref a) (.ref s4.heap.objs.size)) (EP X pins σ Q) X.xe { s4 with heap := s4.heap.push { cls := .type "slice", data := .fields #[.none, .none, vs] } }
    refine tail_any (ops := [.ref a, .ref s4.heap.objs.size]) ht.typeIs (PyProof.Rows.slot_tuple_getitem.lookup) ?_ (by with_unfolding_all rfl)
    refine getItem_tuple_back ht (Heap.IsSliceOf.new _ .none .none vs) ps ?_ (by rw [List.size_toArray]; omega)
    refine ⟨.ref _, _, I5.laid (t' := s4.toks) (o := .tup xs.reverse) (fun b ob q => Heap.get?_push_of_some _ q) (Nat.le_refl _) ?_, rfl, q _ (I5.hok.fresh (Nat.le_refl _))⟩
    exact ⟨by rw [List.length_reverse]; exact hz, _, r.reverse, IsTup.new _ _⟩
end
end ZS
set_option Elab.async false
set_option linter.all false
set_option maxHeartbeats 4000000
/-! Rule by rule, the third part: displays, places, slices, built-ins, isinstance, index, count. -/
namespace Rm
open PySem PySem.Spec L2
section
variable {C : Nat → Addr} {Wx : WX} {S : Sig} {X : Cx} {n : Nat}

/-! ### lists of expressions -/
theorem pa_rnil : PA X [] (tL X.K C Wx (evL S .nil)) := by
  refine PA_imp pa_nil fun σ H Q _ q => ?_
  obtain ⟨W, fr, st, R, q⟩ := q
  simp only [evL] at q
  exact fun _ => q W H [] (.refl _ _) rfl R .nil
theorem tCons_of {ta : TE} {e l : E} {tr : TA} {σ : St} {H : Hp} {Q : List V → Hp → Prop} (q : tL X.K C Wx (evL S (.cons e l)) σ H Q) :
    tCons (tE X.K C Wx (evE S e)) (tL X.K C Wx (evL S l)) σ H (fun vs H' => Sz H' → Q vs H') := by
  obtain ⟨W, fr, st, R, q⟩ := q
  simp only [evL] at q
  refine ⟨W, fr, st, R, q.bind.imp (fun p st1 h1 W1 H1 v x o R1 D => ⟨W1, fr, st1, R1, (Post.bind h1).imp (fun ps st2 h2 W2 H2 vs x2 o2 R2 D2 _ => ?_) fun _ _ _ z => EndX.shift z x o⟩) fun _ _ _ z => z⟩
  exact h2 W2 H2 _ (x.trans x2) (o2.trans o) R2 (.cons (DenM.ext R1.s.sep x2 o2 D) D2)
theorem pa_rcons {a : Expr} {es : List Expr} {e l : E} (hs : noStar a = true) (ha : PE X a (tE X.K C Wx (evE S e))) (hr : PA X es (tL X.K C Wx (evL S l))) : PA X (a :: es) (tL X.K C Wx (evL S (.cons e l))) :=
  PA_imp (pa_cons ha hr (star_cons hs)) fun σ H Q _ q => tCons_of (ta := tE X.K C Wx (evE S e)) (tr := tL X.K C Wx (evL S l)) q
theorem PK_imp {e : List Keyword} {t t' : TA} (h : PK X e t) (k : ∀ σ H Q, Sz H → t' σ H Q → t σ H (fun v H' => Sz H' → Q v H')) : PK X e t' := by
  refine ⟨fun pos pins s σ H Q I hw => ?_⟩
  exact thn (h.run pos pins s σ H _ I (k σ H Q (Inv.sz' I) hw)) fun u s1 ⟨x, H1, I1, r1, q1⟩ => ⟨x, H1, I1, r1, q1 (Inv.sz' I1)⟩
theorem pk_rnil : PK X [] (tL X.K C Wx (evL S .nil)) := by
  refine PK_imp pk_nil fun σ H Q _ q => ?_
  obtain ⟨W, fr, st, R, q⟩ := q
  simp only [evL] at q
  exact fun _ => q W H [] (.refl _ _) rfl R .nil
theorem pk_rcons {nm : Option Str} {a : Expr} {kp : Pos} {es : List Keyword} {e l : E} (ha : PE X a (tE X.K C Wx (evE S e))) (hr : PK X es (tL X.K C Wx (evL S l))) : PK X (⟨nm, a, kp⟩ :: es) (tL X.K C Wx (evL S (.cons e l))) :=
  PK_imp (pk_cons ha hr) fun σ H Q _ q => tCons_of (ta := tE X.K C Wx (evE S e)) (tr := tL X.K C Wx (evL S l)) q

/-! ### displays -/
theorem pe_rtup {es : List Expr} {k : Nat} {pos : Pos} {l : E} (ha : PA X es (tL X.K C Wx (evL S l))) : PE X (.Tuple es k pos) (tE X.K C Wx (evE S (.tup l))) := by
  refine PE_fresh (PE_imp (pe_tup ha) fun σ H Q _ q => ?_)
  obtain ⟨W, fr, st, R, q⟩ := q
  simp only [evE] at q
  refine ⟨W, fr, st, R, q.bind.imp (fun ps st1 h1 W1 H1 vs x o R1 D => ?_) fun _ _ _ z => z⟩
  split at h1
  · rename_i hk
    have g := EndFr.gv R1 (EndFr.shift (show EndFr X.K C W H σ fr st1 (.seq true ps) Q from h1) x o) rfl
    have dd := D.dens hk.1
    exact ⟨by rw [dd.len]; exact fits_iff.mp hk.2, fun p hp => g.1 p vs hp dd⟩
  · exact h1.elim
theorem pe_rlst {es : List Expr} {pos : Pos} {l : E} (ha : PA X es (tL X.K C Wx (evL S l))) : PE X (.List es pos) (tFr X.K C Wx (evE S (.lst l))) := by
  refine PE_imp (pe_lst ha) fun σ H Q _ q => ?_
  obtain ⟨W, fr, st, R, q⟩ := q
  simp only [evE] at q
  refine ⟨W, fr, st, R, q.bind.imp (fun ps st1 h1 W1 H1 vs x o R1 D => ?_) fun _ _ _ z => z⟩
  split at h1
  · rename_i hk
    have g := EndFr.gv R1 (EndFr.shift (show EndFr X.K C W H σ fr st1 (.seq false ps) Q from h1) x o) rfl
    have dd := D.dens hk.1
    exact ⟨by rw [dd.len]; exact fits_iff.mp hk.2, fun p hp => g p vs hp dd⟩
  · exact h1.elim

/-! ### places, slices -/
def noSlice : Expr → Bool
  | .Slice _ _ _ _ => false
  | _ => true
theorem noSlice_ok {b : Expr} (h : noSlice b = true) : PlainIx b := by
  intro o i
  cases b <;> first | rfl | cases h
theorem pe_rsub {a b : Expr} {pos : Pos} {e f : E} (hm : noSlice b = true) (ha : PE X a (tE X.K C Wx (evE S e))) (hb : PE X b (tE X.K C Wx (evE S f))) : PE X (.Subscript a b pos) (tE X.K C Wx (evE S (.sub e f))) := by
  refine PE_imp (pe_ix (ix_idxF (C := C)) ha hb (noSlice_ok hm)) fun σ H Q _ q => ?_
  rw [evE_sub] at q
  obtain ⟨W, fr, st, R, q⟩ := tE_two q
  refine ⟨W, fr, st, R, q.imp (fun p st1 k W1 H1 v x o R1 D => ?_) fun _ _ _ z => z⟩
  obtain ⟨W2, fr2, st2, R2, k⟩ := k W1 H1 v x o R1 D
  refine ⟨W2, fr2, st2, R2, k.imp (fun p2 st3 k2 W3 H3 u x3 o3 R3 D3 => ?_) fun _ _ _ z => z⟩
  obtain ⟨W4, fr4, st4, px, py, R4, Dx, Dy, hp⟩ := k2 W3 H3 u x3 o3 R3 D3
  obtain ⟨z, hz, g⟩ := hp.of
  exact ⟨W4, _, _, z, R4.deref Dx, Dy, hz, fun w dw _ => g W4 _ w (.refl _ _) rfl R4 (.inl dw)⟩
section
variable (K : PySem.W.Frag) (C : Nat → Addr) (Wx : WX)
def tO (f : Frm → Sto → Out (Option Int)) : TO := fun σ H Q => ∃ W fr st, Rel K C W H σ fr st ∧
  Post (f fr st) (fun i st' => ∀ W' H', Ext W H W' H' → W'.o = W.o → Rel K C W' H' σ fr st' → Q i H') (EndX K C Wx W H σ fr)
end
theorem po_rnone : PO X none (tO X.K C Wx (evO S .nil)) := by
  refine ⟨fun pins s σ H Q I q => po_none.run pins s σ H Q I ?_⟩
  obtain ⟨W, fr, st, R, q⟩ := q
  exact q W H (.refl _ _) rfl R
theorem po_rsome {a : Expr} {e : E} (hne : e ≠ .nil) (ha : PE X a (tE X.K C Wx (evE S e))) : PO X (some a) (tO X.K C Wx (evO S e)) := by
  refine ⟨fun pins s σ H Q I q => (po_some ha).run pins s σ H Q I ?_⟩
  obtain ⟨W, fr, st, R, q⟩ := q
  have q' : Post ((evE S e fr st).bind fun p st => (Out.of (intF p) st).bind fun i st => .ok (some i) st) (fun i st' => ∀ W' H', Ext W H W' H' → W'.o = W.o → Rel X.K C W' H' σ fr st' → Q i H') (EndX X.K C Wx W H σ fr) := by
    cases e <;> first | exact absurd rfl hne | exact q
  refine ⟨W, fr, st, R, q'.bind.imp (fun p st1 h1 W1 H1 v x o R1 D => ?_) fun _ _ _ z => z⟩
  obtain ⟨i, hi, h2⟩ := Post.of (Post.bind h1)
  cases p <;> simp only [intF, reduceCtorEq] at hi
  cases hi
  have d' := D.den rfl
  cases d'
  exact ⟨_, rfl, h2 W1 H1 x o R1⟩
theorem pe_rslc {a : Expr} {lo hi : Option Expr} {p2 pos : Pos} {e l h : E} (ha : PE X a (tE X.K C Wx (evE S e))) (hl : PO X lo (tO X.K C Wx (evO S l))) (hh : PO X hi (tO X.K C Wx (evO S h))) :
    PE X (.Subscript a (.Slice lo hi none p2) pos) (tFr X.K C Wx (evE S (.slc e l h))) := by
  refine PE_imp (pe_slice (sl_cutF (C := C)) ha hl hh) fun σ H Q _ q => ?_
  obtain ⟨W, fr, st, R, q⟩ := q
  simp only [evE] at q
  refine ⟨W, fr, st, R, q.bind.imp (fun p st1 h1 W1 H1 v x o R1 D => ⟨W1, fr, st1, R1, (Post.bind h1).imp (fun i st2 h2 W2 H2 x2 o2 R2 => ⟨W2, fr, st2, R2, (Post.bind h2).imp (fun j st3 h3 W3 H3 x3 o3 R3 => ?_) fun _ _ _ z => EndX.shift z (x.trans x2) (o2.trans o)⟩) fun _ _ _ z => EndX.shift z x o⟩) fun _ _ _ z => z⟩
  obtain ⟨z, hz, g⟩ := h3.of
  have D3 := DenM.ext R2.s.sep x3 o3 (DenM.ext R1.s.sep x2 o2 D)
  have g3 := EndFr.shift g ((x.trans x2).trans x3) (o3.trans (o2.trans o))
  have pl : plainV z = true := by
    cases hx : Rm.deref fr st3 p <;> rw [hx] at hz <;> simp only [cutF, reduceCtorEq] at hz <;> (cases hz; rfl)
  exact ⟨W3, _, z, R3.deref D3, hz, g3.gv R3 pl⟩
theorem pe_rrev {a : Expr} {k : Nat} {p1 p2 p3 pos : Pos} {e : E} (ha : PE X a (tE X.K C Wx (evE S e))) : PE X (.Subscript a (.Slice none none (some (.UnaryOp .USub (.Constant (.int 1) k p1) p2)) p3) pos) (tFr X.K C Wx (evE S (.rev e))) := by
  refine PE_imp (ZS.pe_revA ha) fun σ H Q _ q => ?_
  rw [evE_rev] at q
  obtain ⟨W, fr, st, R, q⟩ := tFr_then q
  refine ⟨W, fr, st, R, q.imp (fun p st1 k W1 H1 v x o R1 D => ?_) fun _ _ _ z => z⟩
  obtain ⟨W4, fr4, st4, px, R4, Dx, hp⟩ := k W1 H1 v x o R1 D
  obtain ⟨z, hz, g⟩ := hp.of
  cases hx : Rm.deref fr4 st4 px <;> rw [hx] at hz <;> simp only [revF, reduceCtorEq] at hz
  rename_i t xs
  cases hz
  have dd := R4.deref Dx
  rw [hx] at dd
  cases t with
  | false =>
    obtain ⟨a', us, rfl, ha', ds⟩ := dd.list
    exact .inl ⟨a', us, rfl, SqL.of ha', fun pp hp => g.gv R4 rfl pp us.reverse hp ds.rev⟩
  | true =>
    obtain ⟨a', us, rfl, ha', ds⟩ := dd.tup
    exact .inr ⟨a', us, rfl, ha', fun pp hp => (g.gv R4 rfl).1 pp us.reverse hp ds.rev⟩

/-! ### built-ins -/
def bltN : Blt → Str
  | .len => "len" | .sum => "sum" | .all => "all" | .any => "any" | .int => "int" | .str => "str" | .bool => "bool" | .repr => "repr" | .tuple => "tuple" | .list => "list" | .sorted => "sorted" | .abs => "abs" | .max => "max" | .min => "min"
theorem bltN_in (b : Blt) : bltN b ∈ bltNames := by cases b <;> decide
theorem bltN_boot (b : Blt) : bootBuiltins (bltN b) = some (bltV b) := by cases b <;> decide +kernel
theorem bltN_nm (b : Blt) : bltN b ≠ "__name__" ∧ (bltN b == ("__debug__" : Str)) = false := by cases b <;> decide
theorem pe_rblt {b : Blt} {p pos : Pos} {a : Expr} {es : List Expr} {l : E} (hc : X.calm = true) (hu : X.A.units + 65 < cLine) (hg : X.A.guards = some []) (gl : Gl X (bltN b)) (hm : X.mg (bltN b) = none) (ns : (a :: es).all noStar = true) (ha : PA X (a :: es) (tL X.K C Wx (evL S l))) :
    PE X (.Call (.Name (bltN b) p) (a :: es) [] pos) (tFr X.K C Wx (evE S (.blt b l))) := by
  have ns' : noStar a = true ∧ es.all noStar = true := by simpa using ns
  have base : PE X (.Call (.Name (bltN b) p) (a :: es) [] pos) (tCB (rBlt X.K C b) (tL X.K C Wx (evL S l))) := by
    have hr := call_bltF (C := C) hc hu hg b
    have hv := bltN_boot b
    cases b
    all_goals first
      | exact pe_callB hr gl hm hv ha (bltN_nm _).1 (bltN_nm _).2 (star_cons ns'.1) (star_any ns'.2)
      | exact pe_callTy hr gl hm hv ha (bltN_nm _).1 (bltN_nm _).2 (star_cons ns'.1) (star_any ns'.2)
  refine PE_imp base fun σ H Q _ q => ?_
  obtain ⟨W, fr, st, R, q⟩ := q
  simp only [evE] at q
  refine ⟨W, fr, st, R, q.bind.imp (fun ps st1 h1 W1 H1 vs x o R1 D => ?_) fun _ _ _ z => z⟩
  obtain ⟨z, hz, g⟩ := h1.of
  have pl : plainV z = true := by
    generalize ps.map (Rm.deref fr st1) = qs at hz
    revert hz
    cases b <;> unfold bltF <;> intro hz <;> (split at hz) <;> first
      | (cases hz; rfl)
      | cases hz
      | (simp only [Option.map_eq_some_iff] at hz; obtain ⟨_, _, rfl⟩ := hz; rfl)
      | (simp only [Option.bind_eq_some_iff, Option.map_eq_some_iff] at hz; obtain ⟨_, _, _, _, rfl⟩ := hz; rfl)
      | (simp only [sortF, Option.bind_eq_some_iff] at hz; obtain ⟨_, _, hz⟩ := hz; split at hz <;> first | (cases hz; rfl) | cases hz)
      | (split at hz <;> first | (cases hz; rfl) | cases hz)
  exact ⟨W1, _, z, Rel.derefs R1 D, hz, (EndFr.shift g x o).gv R1 pl⟩
end
end Rm
set_option Elab.async false
set_option linter.all false
set_option maxHeartbeats 4000000
/-! Rule by rule, the fourth part: isinstance, index, count, what is walked, comprehensions. -/
namespace Rm
open PySem PySem.Spec L2
section
variable {C : Nat → Addr} {Wx : WX} {S : Sig} {X : Cx} {n : Nat}

/-! ### isinstance -/
def tyV (C : Nat → Addr) : Ty → V
  | .int => .ty "int" | .bool => .ty "bool" | .str => .ty "str" | .tuple => .ty "tuple" | .list => .ty "list" | .vErr => .ty "ValueError"
  | .cls c => .ref (C c)
  | .own c => .ref (C (1000 + c))
def tyN (T : Gtab) : Ty → Str
  | .int => "int" | .bool => "bool" | .str => "str" | .tuple => "tuple" | .list => "list" | .vErr => "ValueError"
  | .cls c => T.cl.getD c ""
  | .own c => T.oc.getD c ""
def tyS : Ty → String
  | .int => "int" | .bool => "bool" | .str => "str" | .tuple => "tuple" | .list => "list" | .vErr => "ValueError"
  | .cls _ => ""
  | .own _ => ""
def pvS : PV → Option String
  | .non => some "NoneType" | .bl _ => some "bool" | .int _ => some "int" | .str _ => some "str" | .seq true _ => some "tuple" | .seq false _ => some "list"
  | _ => none
theorem pvS_ty {W : Wd} {H : Hp} {v : V} {p : PV} {T : String} (d : DenB X.K C W H v p) (h : pvS p = some T) : TyX X.K H v (.type T) := by
  cases p <;> simp only [pvS, reduceCtorEq] at h
  case non => cases h; obtain rfl := d.non; exact .base .non
  case bl b => cases h; obtain rfl := d.bl; exact .base (.bl b)
  case int b => cases h; obtain rfl := d.int; exact .base (.int b)
  case str b => cases h; obtain rfl := d.str; exact .base (.str b)
  case seq t xs =>
    cases t <;> simp only [pvS] at h <;> cases h
    · obtain ⟨a, us, rfl, hs, _⟩ := d.list
      exact .base (.lst hs)
    · obtain ⟨a, us, rfl, hs, _⟩ := d.tup
      rcases hs with (hs | ⟨o, hs⟩) | ⟨o, its, m, hk, hc, _⟩
      · exact .base (.tup hs)
      · exact .fTuple hs
      · exact .kTuple hk hc
theorem isi_table : ∀ T ∈ (["NoneType", "bool", "int", "str", "list", "tuple"] : List String), ∀ U ∈ (["int", "bool", "str", "tuple", "list", "ValueError"] : List String), kitB T U = some (T == U || (T == "bool" && U == "int")) := by decide +kernel
theorem pvS_in {p : PV} {T : String} (h : pvS p = some T) : T ∈ (["NoneType", "bool", "int", "str", "list", "tuple"] : List String) := by
  unfold pvS at h
  split at h <;> (cases h <;> simp)
/-- the classes are what they should be -/
def ClsAll (K : PySem.W.Frag) (C : Nat → Addr) (S : Sig) (m n : Nat) : Prop := (∀ c, c < m → ∃ l, S.anc[c]? = some l ∧ ClsOk K C c l m) ∧ ∀ c, c < n → OwnOk K C c m n
def tyIn (m n : Nat) : Ty → Prop
  | .cls c => c < m
  | .own c => c < n
  | _ => True
def tyU (C : Nat → Addr) : Ty → Value
  | .int => .type "int" | .bool => .type "bool" | .str => .type "str" | .tuple => .type "tuple" | .list => .type "list" | .vErr => .type "ValueError"
  | .cls c => .ref (C c)
  | .own c => .ref (C (1000 + c))
theorem tyV_cls (C : Nat → Addr) (t : Ty) : ClsV (tyV C t) (tyU C t) := by
  cases t <;> first | exact .ty _ | exact .own _
/-- what isinstance asks of a value, and its answers -/
theorem kit_all {m n : Nat} {pins : List (Addr × Obj)} {σ : St} {H : Hp} {s : Shared} {W : Wd} {v : V} {p : PV} {u : Value} (hC : ClsAll X.K C S m n) (ha : S.anc.length = m) (ho : S.own = n) (I : Inv X pins σ H s) (d : DenB X.K C W H v p) (rv : RelV v u) (hd : ∃ t k, isiF S p t = some k) :
    ∃ (P : Heap → Prop) (T : Value), PySem.W.KitX X.K u T P ∧ P s.heap ∧ u ≠ .builtin "__main__.__loader__#opaque" ∧ ∀ t k, tyIn m n t → isiF S p t = some k → PySem.W.kitOne X.K T (tyU C t) = some k := by
  cases hp : pvS p with
  | some T =>
    have ty := pvS_ty d hp
    have inT := pvS_in hp
    obtain ⟨P, Z, h1, h2⟩ := kit_of I rv ty
    refine ⟨P, .type T, Z, h1, h2, fun t k ht hk => ?_⟩
    have bt : ∀ U ∈ (["int", "bool", "str", "tuple", "list", "ValueError"] : List String), (T == U || (T == "bool" && U == "int")) = k → PySem.W.kitOne X.K (.type T) (.type U) = some k := fun U hU e => kit_ty (by rw [isi_table T inT U hU, e])
    cases t with
    | cls c =>
      obtain ⟨l, h1, h2⟩ := hC.1 c ht
      show PySem.W.kitOne X.K (.type T) (.ref (C c)) = some k
      rw [h2.no T inT]
      cases p <;> simp only [isiF, pvS, reduceCtorEq] at hk hp <;> first | exact hk.symm ▸ rfl | skip
    | own c =>
      show PySem.W.kitOne X.K (.type T) (.ref (C (1000 + c))) = some k
      rw [(hC.2 c ht).tb T inT]
      cases p <;> simp only [isiF, pvS, reduceCtorEq] at hk hp <;> first | exact hk.symm ▸ rfl | skip
    | int => exact bt "int" (by decide) (by unfold pvS at hp; split at hp <;> first | (cases hp; simp only [isiF, Option.some.injEq] at hk; rw [← hk]; rfl) | cases hp)
    | bool => exact bt "bool" (by decide) (by unfold pvS at hp; split at hp <;> first | (cases hp; simp only [isiF, Option.some.injEq] at hk; rw [← hk]; rfl) | cases hp)
    | str => exact bt "str" (by decide) (by unfold pvS at hp; split at hp <;> first | (cases hp; simp only [isiF, Option.some.injEq] at hk; rw [← hk]; rfl) | cases hp)
    | tuple => exact bt "tuple" (by decide) (by unfold pvS at hp; split at hp <;> first | (cases hp; simp only [isiF, Option.some.injEq] at hk; rw [← hk]; rfl) | cases hp)
    | list => exact bt "list" (by decide) (by unfold pvS at hp; split at hp <;> first | (cases hp; simp only [isiF, Option.some.injEq] at hk; rw [← hk]; rfl) | cases hp)
    | vErr => exact bt "ValueError" (by decide) (by unfold pvS at hp; split at hp <;> first | (cases hp; simp only [isiF, Option.some.injEq] at hk; rw [← hk]; rfl) | cases hp)
  | none =>
    obtain ⟨t0, k0, hk0⟩ := hd
    cases p <;> simp only [pvS, reduceCtorEq] at hp
    case seq tt xs => cases tt <;> simp only [reduceCtorEq] at hp
    case ref => cases t0 <;> simp only [isiF, reduceCtorEq] at hk0
    case loc => cases t0 <;> simp only [isiF, reduceCtorEq] at hk0
    case scr => cases t0 <;> simp only [isiF, reduceCtorEq] at hk0
    case ins c fs =>
      rcases d with d | ⟨_, _, _, e, _⟩
      · cases d with
        | ins e l ds =>
          rename_i a dx us
          have hcn : c < S.own := by
            cases t0 <;> (simp only [isiF] at hk0; split at hk0 <;> first | assumption | cases hk0)
          have O := hC.2 c (by rw [← ho]; exact hcn)
          obtain ⟨P, Z, h1, h2⟩ := kit_of I rv (.base (.ins e O.cls O.ca O.cn O.ct O.cm))
          refine ⟨P, _, Z, h1, h2, fun t k ht hk => ?_⟩
          cases t with
          | cls d => exact (O.oe d ht).trans (by simpa [isiF, hcn] using hk)
          | own d => exact (O.oo d ht).trans (by simpa [isiF, hcn] using hk)
          | int => exact (O.bt "int" (by decide)).trans (by simpa [isiF, hcn] using hk)
          | bool => exact (O.bt "bool" (by decide)).trans (by simpa [isiF, hcn] using hk)
          | str => exact (O.bt "str" (by decide)).trans (by simpa [isiF, hcn] using hk)
          | tuple => exact (O.bt "tuple" (by decide)).trans (by simpa [isiF, hcn] using hk)
          | list => exact (O.bt "list" (by decide)).trans (by simpa [isiF, hcn] using hk)
          | vErr => exact (O.bt "ValueError" (by decide)).trans (by simpa [isiF, hcn] using hk)
      · cases e
    case exc c pp =>
      rcases d with d | ⟨_, _, _, e, _⟩
      · cases d with
        | exc e =>
          rename_i a
          obtain rfl : u = Value.ref a := rv
          obtain ⟨oe, vs, h1, h2, h3, h4⟩ := (I.hok a _ e).1
          have J : PySem.W.InstAt s.heap a oe (C c) none := by
            obtain ⟨oc, od, oda, osl⟩ := oe
            dsimp only at h2 h3 h4
            subst h2 h3 h4
            exact ⟨h1, rfl, rfl, trivial⟩
          have hcl : ∃ l, S.anc[c]? = some l ∧ ClsOk X.K C c l m := by
            have : c < m := by
              have : ∃ l, S.anc[c]? = some l := by
                cases t0 <;> (simp only [isiF, Option.map_eq_some_iff] at hk0; obtain ⟨l, hl, _⟩ := hk0; exact ⟨l, hl⟩)
              obtain ⟨l, hl⟩ := this
              rw [← ha]
              exact (List.getElem?_eq_some_iff.mp hl).1
            exact hC.1 c this
          obtain ⟨l, hl, cl⟩ := hcl
          have E := cl.ex
          refine ⟨_, _, PySem.W.handS_kitx_exc E.hg E.hk E.hs E.hd E.ha E.hn E.ht E.hm, J, (fun z => nomatch z), fun t k ht hk => ?_⟩
          have hk' : ∀ f : List Nat → Bool, (S.anc[c]?).map f = some k → f l = k := fun f q => by
            rw [hl] at q
            simpa using q
          cases t with
          | cls dd => exact (cl.sub dd ht).trans (congrArg some (hk' _ hk))
          | own dd => exact ((hC.2 dd ht).eo c (by rw [← ha]; exact (List.getElem?_eq_some_iff.mp hl).1)).trans (congrArg some (hk' _ hk))
          | int => exact (cl.noB "int" (by decide)).trans (congrArg some (hk' _ hk))
          | bool => exact (cl.noB "bool" (by decide)).trans (congrArg some (hk' _ hk))
          | str => exact (cl.noB "str" (by decide)).trans (congrArg some (hk' _ hk))
          | tuple => exact (cl.noB "tuple" (by decide)).trans (congrArg some (hk' _ hk))
          | list => exact (cl.noB "list" (by decide)).trans (congrArg some (hk' _ hk))
          | vErr => exact cl.vE.trans (congrArg some (hk' _ hk))
      · cases e
theorem call_isP {m n : Nat} (hC : ClsAll X.K C S m n) (ha : S.anc.length = m) (ho : S.own = n) : CallR X (.builtin "isinstance") (fun xs H Q => ∃ W v p t k, xs = [v, tyV C t] ∧ DenB X.K C W H v p ∧ tyIn m n t ∧ isiF S p t = some k ∧ Q (.bl k) H) := by
  intro pins s σ H xs us Q I r h
  obtain ⟨W, v, p, t, k, rfl, d, ht, hk, q⟩ := h
  obtain ⟨u1, u2, rfl, r1, r2⟩ := vals2 r
  obtain rfl := (tyV_cls C t).eq r2
  obtain ⟨P, T, Z, h1, h2, h3⟩ := kit_all hC ha ho I d r1 ⟨t, k, hk⟩
  exact PySem.W.kia_one Z I.kIn h1 (h3 t k ht hk) h2 fun tk => ⟨.bl k, H, I.tok tk, rfl, q⟩
theorem kitAny_of {K : PySem.W.Frag} {T : Value} {p : PV} {m n : Nat} : ∀ {ts : List Ty} {k : Bool}, (∀ t ∈ ts, tyIn m n t) → (∀ t k, tyIn m n t → isiF S p t = some k → PySem.W.kitOne K T (tyU C t) = some k) → isiAny S p ts = some k → PySem.W.kitAny K T (ts.map (tyU C)) = some k
  | [], k, _, _, h => by
    simp only [isiAny] at h
    cases h
    rfl
  | t :: ts, k, ht, hk, h => by
    simp only [isiAny] at h
    show (match PySem.W.kitOne K T (tyU C t) with | some true => some true | some false => PySem.W.kitAny K T (ts.map (tyU C)) | none => none) = some k
    cases e : isiF S p t with
    | none => rw [e] at h; cases h
    | some b =>
      rw [hk t b (ht t List.mem_cons_self) e]
      rw [e] at h
      cases b with
      | true => exact h
      | false => exact kitAny_of (fun t h => ht t (List.mem_cons_of_mem _ h)) hk h
theorem call_isPT {m n : Nat} (hC : ClsAll X.K C S m n) (ha : S.anc.length = m) (ho : S.own = n) : CallR X (.builtin "isinstance") (fun xs H Q => ∃ W v p ts k tp, xs = [v, .ref tp] ∧ H tp = some (.tup (ts.map (tyV C))) ∧ DenB X.K C W H v p ∧ (∀ t ∈ ts, tyIn m n t) ∧ ts ≠ [] ∧ isiAny S p ts = some k ∧ Q (.bl k) H) := by
  intro pins s σ H xs us Q I r h
  obtain ⟨W, v, p, ts, k, tp, rfl, hT, d, ht, h0, hk, q⟩ := h
  obtain ⟨u1, u2, rfl, r1, r2⟩ := vals2 r
  cases (show u2 = Value.ref tp from r2)
  have hd : ∃ t k, isiF S p t = some k := by
    cases ts with
    | nil => exact absurd rfl h0
    | cons t ts =>
      simp only [isiAny] at hk
      cases e : isiF S p t with
      | none => rw [e] at hk; cases hk
      | some b => exact ⟨t, b, e⟩
  obtain ⟨P, T, Z, h1, h2, h3⟩ := kit_all hC ha ho I d r1 hd
  obtain ⟨_, its, rv, o, g1, g2, n', g3⟩ := (show ObjOk X.prog X.w H s.heap tp (.tup (ts.map (tyV C))) from I.hok tp _ hT)
  have pc : ∀ ts : List Ty, Paired ClsV (ts.map (tyV C)) (ts.map (tyU C)) := fun ts => by
    induction ts with
    | nil => exact .nil
    | cons t ts ih => exact .cons (tyV_cls C t) ih
  have e3 := ClsV.all (pc ts) rv
  subst e3
  obtain ⟨oc, od, dt, sl⟩ := o
  simp only at g2 g3
  subst g2 g3
  exact PySem.W.kia_tup Z I.kIn h1 g1 (kitAny_of ht h3 hk) h2 fun tk => ⟨.bl k, H, I.tok tk, rfl, q⟩
theorem boot_isi : bootBuiltins "isinstance" = some (.builtin "isinstance") := by decide +kernel
def tyB : Ty → Bool
  | .cls _ | .own _ => false
  | _ => true
theorem boot_ty : ∀ t : Ty, tyB t = true → bootBuiltins (Str.ofString (tyS t)) = some (.type (tyS t)) := by
  intro t h
  cases t <;> first | exact nomatch (show false = true from h) | decide +kernel
/-- a class's name as an argument -/
theorem pe_ty {T : Gtab} {t : Ty} {tp : Pos} (gl : Gl X (tyN T t)) (hdb : (tyN T t == ("__debug__" : Str)) = false) (hnn : tyN T t ≠ "__name__") (hb : tyB t = true → X.mg (tyN T t) = none) (hc : ∀ c, t = .cls c → X.mg (tyN T t) = some (.ref (C c))) (ho : ∀ c, t = .own c → X.mg (tyN T t) = some (.ref (C (1000 + c)))) :
    PE X (.Name (tyN T t) tp) (tC (tyV C t)) := by
  cases t with
  | cls c => exact pe_glob gl (hc c rfl) rfl hdb
  | own c => exact pe_glob gl (ho c rfl) rfl hdb
  | int => exact pe_bltn gl (hb rfl) (boot_ty .int rfl) rfl hnn hdb
  | bool => exact pe_bltn gl (hb rfl) (boot_ty .bool rfl) rfl hnn hdb
  | str => exact pe_bltn gl (hb rfl) (boot_ty .str rfl) rfl hnn hdb
  | tuple => exact pe_bltn gl (hb rfl) (boot_ty .tuple rfl) rfl hnn hdb
  | list => exact pe_bltn gl (hb rfl) (boot_ty .list rfl) rfl hnn hdb
  | vErr => exact pe_bltn gl (hb rfl) (boot_ty .vErr rfl) rfl hnn hdb
theorem pe_risi {m n : Nat} {T : Gtab} {t : Ty} {a : Expr} {p tp pos : Pos} {e : E} (hC : ClsAll X.K C S m n) (hl : S.anc.length = m) (ho : S.own = n) (ht : tyIn m n t) (gi : Gl X "isinstance") (hm : X.mg "isinstance" = none) (ns : noStar a = true)
    (hty : PE X (.Name (tyN T t) tp) (tC (tyV C t))) (ha : PE X a (tE X.K C Wx (evE S e))) :
    PE X (.Call (.Name "isinstance" p) [a, .Name (tyN T t) tp] [] pos) (tE X.K C Wx (evE S (.isi e [t]))) := by
  refine PE_imp (pe_callB (call_isP (C := C) (S := S) hC hl ho) gi hm boot_isi (pa_cons ha (pa_cons hty pa_nil) (star_cons ns)) (by decide) (by decide) (star_cons ns)) fun σ H Q _ q => ?_
  rw [evE_isi] at q
  obtain ⟨W, fr, st, R, q⟩ := tE_then q
  refine ⟨W, fr, st, R, q.imp (fun p st1 k W1 H1 v x o R1 D => ?_) fun _ _ _ z => z⟩
  obtain ⟨W4, fr4, st4, px, R4, Dx, hp⟩ := k W1 H1 v x o R1 D
  obtain ⟨z, hz, g⟩ := Post.of (Post.bind hp)
  have hz' : isiF S (Rm.deref fr4 st4 px) t = some z := by
    simp only [isiAny] at hz
    split at hz <;> cases hz <;> assumption
  exact ⟨W4, v, _, t, z, rfl, R4.deref Dx, ht, hz', fun _ => end_bl R4 g⟩
theorem pe_risiT {m n : Nat} {ts : List Ty} {a : Expr} {es : List Expr} {kk : Nat} {p tp pos : Pos} {e : E} (hC : ClsAll X.K C S m n) (hl : S.anc.length = m) (ho : S.own = n) (ht : ∀ t ∈ ts, tyIn m n t) (h0 : ts ≠ []) (hz : ts.length ≤ sizeLine) (gi : Gl X "isinstance") (hm : X.mg "isinstance" = none) (ns : noStar a = true)
    (hty : PA X es (fun _ H Q => Q (ts.map (tyV C)) H)) (ha : PE X a (tE X.K C Wx (evE S e))) :
    PE X (.Call (.Name "isinstance" p) [a, .Tuple es kk tp] [] pos) (tE X.K C Wx (evE S (.isi e ts))) := by
  refine PE_imp (pe_callB (call_isPT (C := C) (S := S) hC hl ho) gi hm boot_isi (pa_cons ha (pa_cons (pe_tup hty) pa_nil) (star_cons ns)) (by decide) (by decide) (star_cons ns)) fun σ H Q _ q => ?_
  rw [evE_isi] at q
  obtain ⟨W, fr, st, R, q⟩ := tE_then q
  refine ⟨W, fr, st, R, q.imp (fun p st1 k W1 H1 v x o R1 D => ?_) fun _ _ _ z => z⟩
  obtain ⟨W4, fr4, st4, px, R4, Dx, hp⟩ := k W1 H1 v x o R1 D
  obtain ⟨z, hz2, g⟩ := Post.of (Post.bind hp)
  refine ⟨by rw [List.length_map]; exact hz, fun tpa hT => ?_⟩
  have sz : Sz (upd H1 tpa (.tup (ts.map (tyV C)))) := fun b us q => by
    by_cases e : b = tpa
    · subst e
      rcases q with (q | ⟨o, q⟩) | (q | ⟨o, q⟩) <;> rw [upd_same] at q <;> cases q
      rw [List.length_map]
      exact hz
    · rcases q with (q | ⟨o, q⟩) | (q | ⟨o, q⟩) <;> rw [upd_ne e] at q
      · exact R4.s.sz b us (.inl (.inl q))
      · exact R4.s.sz b us (.inl (.inr ⟨o, q⟩))
      · exact R4.s.sz b us (.inr (.inl q))
      · exact R4.s.sz b us (.inr (.inr ⟨o, q⟩))
  have R5 : Rel X.K C W4 (upd H1 tpa (.tup (ts.map (tyV C)))) σ fr4 st4 := R4.new hT sz
  have D5 := DenM.ext R4.s.sep (Ext.new (u := HO.tup (ts.map (tyV C))) hT) rfl Dx
  exact ⟨W4, v, _, ts, z, tpa, rfl, upd_same, R5.deref D5, ht, h0, hz2, fun _ => g W4 _ _ (Ext.new hT) rfl R5 (.inl (.bl z))⟩
end
end Rm
set_option Elab.async false
set_option linter.all false
set_option maxHeartbeats 4000000
/-! Rule by rule, the fifth part: index, count, what is walked, comprehensions. -/
namespace Rm
open PySem PySem.Spec L2
section
variable {C : Nat → Addr} {Wx : WX} {S : Sig} {X : Cx} {n : Nat}

/-! ### index, count -/
theorem Dp_list {W : Wd} {H : Hp} {v : V} {xs : List PV} (d : DenB X.K C W H v (.seq false xs)) (h : areDat xs = true) : ∃ a us, v = .ref a ∧ SqL X.K H a us ∧ Dp X.K H (.ref a) (.list (dats xs)) := by
  obtain ⟨a, us, rfl, hs, ds⟩ := d.list
  exact ⟨a, us, rfl, SqL.of hs, .lst (SqL.of hs) (ds.dp h)⟩
theorem mt_cntD (hu : X.A.units + 65 < cLine) : MtR X "list.count" (fun x xs H Q => ∃ (a : Addr) (y : V) (d : PyData) (ds : List PyData), x = V.ref a ∧ xs = [y] ∧ Dp X.K H (V.ref a) (.list ds) ∧ Dp X.K H y d ∧
    SeqAt.shaped (.list ds) = true ∧ SeqAt.shaped d = true ∧ Q (.int ((ds.countP fun z => PyData.eqv z d : Nat) : Int)) H) := by
  intro pins s σ H x xs v us Q I rx rxs h
  obtain ⟨a, y, d, ds, rfl, rfl, hl, hy, sl, sd, q⟩ := h
  cases rx
  obtain ⟨uy, rfl, ry⟩ := rxs.one
  obtain ⟨bs, rd⟩ := Dp.reads I d y uy hy ry
  have lay : PyData.canLayAll0 ds = true := SeqAt.canLay_of_shaped sl
  have room : X.A.units + 1 + min (PyData.depthAll ds) d.depth < cLine := PyProof.Rows.room_in_shaped sd hu
  cases hl with
  | lst hs ha =>
    obtain ⟨its, rv, ⟨⟨cl, di, da, sls⟩, m, ho, hc, hdn, hdt⟩, hlen⟩ := I.list hs
    dsimp only at hc hdt
    subst hc hdt
    obtain ⟨as, h4⟩ := Dp.readsAll I ds _ its ha rv
    have hmap : its.map (SeqAt.readOf s.heap) = ds := SeqAt.readsAll_map ds its as lay h4
    refine call_meets PySem.F.slot_list_count ⟨_, ho, rfl⟩ PySem.F.entry_list_count (PySem.F.args_list_count_2 _ _)
      (SeqAt.list_countAt a its.toArray m di sls uy (fun u => PyData.eqv (SeqAt.readOf s.heap u) d)) ⟨ho, SeqAt.items_eqAt (vs := its.toArray) (show ReadsAll s.heap its.toArray.toList ds as from h4) rd lay (SeqAt.canLay_of_shaped sd) room, ?_⟩
    have ec : its.toArray.toList.countP (fun u => PyData.eqv (SeqAt.readOf s.heap u) d) = ds.countP fun z => PyData.eqv z d := by
      rw [← hmap, List.countP_map]
      rfl
    refine ⟨.int ((ds.countP fun z => PyData.eqv z d : Nat) : Int), H, I.tok _, ⟨s.toks, ?_⟩, q⟩
    rw [ec]
theorem lst_dat {xs : List PV} (h : isDat (.seq false xs) = true) : areDat xs = true := by simpa [isDat] using h
theorem tyV_list {W : Wd} {H : Hp} {v : V} {xs : List PV} (d : DenB X.K C W H v (.seq false xs)) : L2.tyV X.K "list" v H := by
  obtain ⟨a, us, rfl, hs, _⟩ := d.list
  exact .inl ⟨rfl, us, SqL.of hs⟩
theorem lstF_eq {p : PV} {xs : List PV} (h : lstF p = some xs) : p = .seq false xs := by
  cases p <;> simp only [lstF, reduceCtorEq] at h
  rename_i t ys
  cases t <;> simp only [reduceCtorEq] at h
  cases h
  rfl
/-- a method of a list with one argument -/
theorem tBM_of {k : PV → PV → Option PV} {r : V → List V → Hp → VK → Prop} {e f : E} (hr : ∀ W H v u p q z Q, DenB X.K C W H v p → DenB X.K C W H u q → k p q = some z → (∃ i : Int, z = .int i ∧ (Q (.int i) H)) → r v [u] H Q) (hk : ∀ p q z, k p q = some z → ∃ i : Int, z = .int i) {σ : St} {H : Hp} {Q : VK}
    (q : tE X.K C Wx (fun fr st => (evE S e fr st).bind fun v st => (Out.of (lstF (Rm.deref fr st v)) st).bind fun _ st => (evE S f fr st).bind fun y st => .of (k (Rm.deref fr st v) (Rm.deref fr st y)) st) σ H Q) :
    tBM X.K "list" r (tE X.K C Wx (evE S e)) (tCons (tE X.K C Wx (evE S f)) tNil) σ H Q := by
  obtain ⟨W, fr, st, R, q⟩ := q
  refine ⟨W, fr, st, R, q.bind.imp (fun p st1 h1 W1 H1 v x o R1 D => ?_) fun _ _ _ z => z⟩
  obtain ⟨xs, hx, h2⟩ := Post.of (Post.bind h1)
  have dd := R1.deref D
  rw [lstF_eq hx] at dd
  refine ⟨tyV_list dd, W1, fr, st1, R1, (Post.bind h2).imp (fun p2 st2 h3 W2 H2 u x2 o2 R2 D2 => ?_) fun _ _ _ z => EndX.shift z x o⟩
  obtain ⟨z, hz, g⟩ := Post.of h3
  obtain ⟨i, rfl⟩ := hk _ _ _ hz
  refine hr W2 H2 v u _ _ _ Q (R2.deref (DenM.ext R1.s.sep x2 o2 D)) (R2.deref D2) hz ⟨i, rfl, ?_⟩
  exact g W2 H2 _ (x.trans x2) (o2.trans o) R2 (.inl (.int i))
theorem okL {xs : List PV} (h : okEq (.seq false xs) = true) : areDat xs = true ∧ SeqAt.shaped (.list (dats xs)) = true := by
  have := okEq_shaped h
  refine ⟨lst_dat this.1, ?_⟩
  simpa only [dat] using this.2
theorem pe_ridx {a b : Expr} {apos cpos : Pos} {e f : E} (hu : X.A.units + 65 < cLine) (ns : noStar b = true) (hln : (apos.endLine == cpos.line) = true) (hbase : ∀ x, attributeBase a "index" X.env x = x) (ha : PE X a (tE X.K C Wx (evE S e))) (hb : PE X b (tE X.K C Wx (evE S f))) :
    PE X (.Call (.Attribute a "index" apos) [b] [] cpos) (tE X.K C Wx (evE S (.idx e f))) := by
  refine PE_imp (pe_bm PySem.F.plainAttrs_list PySem.F.slot_list_index PySem.F.type_list_index (mt_indexD hu) ha (pa_cons hb pa_nil (star_cons ns)) (hbase _) (by rw [star_cons ns]; rfl) hln (star_cons ns)) fun σ H Q _ q => ?_
  rw [evE_idx] at q
  refine tBM_of (k := fun p q => idxM q p) (S := S) (C := C) (Wx := Wx) ?_ ?_ (e := e) (f := f) ?_
  · rintro W H v u p q z Q dv du hz ⟨i, rfl, h⟩
    cases p <;> simp only [idxM, reduceCtorEq] at hz
    rename_i t xs
    cases t <;> simp only [idxM, reduceCtorEq] at hz
    simp only [Option.map_eq_some_iff, PV.int.injEq] at hz
    obtain ⟨j, hj, e1⟩ := hz
    unfold idxOfF at hj
    split at hj
    · rename_i hok
      obtain ⟨h1, h2⟩ := okL hok.2
      obtain ⟨h3, h4⟩ := okEq_shaped hok.1
      obtain ⟨a', us, rfl, hs, dl⟩ := Dp_list dv h1
      obtain ⟨g1, g2, g3⟩ := List.findIdx?_eq_some_iff_getElem.mp hj
      refine ⟨a', u, _, _, j, (dats xs)[j], rfl, rfl, dl, du.dp h3, h2, h4, List.getElem?_eq_getElem g1, g2, fun m z' hm hz' => ?_, by subst e1; exact h⟩
      obtain ⟨hm2, rfl⟩ := List.getElem?_eq_some_iff.mp hz'
      simpa using g3 m hm
    · cases hj
  · intro p q z hz
    cases p <;> simp only [idxM, reduceCtorEq] at hz
    rename_i t xs
    cases t <;> simp only [idxM, reduceCtorEq] at hz
    simp only [Option.map_eq_some_iff] at hz
    obtain ⟨j, _, rfl⟩ := hz
    exact ⟨_, rfl⟩
  · obtain ⟨W, fr, st, R, q⟩ := q
    exact ⟨W, fr, st, R, q.imp (fun p st' h W' H' v x o R' D _ => h W' H' v x o R' D) fun _ _ _ z => z⟩
theorem pe_rcnt {a b : Expr} {apos cpos : Pos} {e f : E} (hu : X.A.units + 65 < cLine) (ns : noStar b = true) (hln : (apos.endLine == cpos.line) = true) (hbase : ∀ x, attributeBase a "count" X.env x = x) (ha : PE X a (tE X.K C Wx (evE S e))) (hb : PE X b (tE X.K C Wx (evE S f))) :
    PE X (.Call (.Attribute a "count" apos) [b] [] cpos) (tE X.K C Wx (evE S (.cnt e f))) := by
  refine PE_imp (pe_bm PySem.F.plainAttrs_list PySem.F.slot_list_count PySem.F.type_list_count (mt_cntD hu) ha (pa_cons hb pa_nil (star_cons ns)) (hbase _) (by rw [star_cons ns]; rfl) hln (star_cons ns)) fun σ H Q _ q => ?_
  rw [evE_cnt] at q
  refine tBM_of (k := fun p q => cntM q p) (S := S) (C := C) (Wx := Wx) ?_ ?_ (e := e) (f := f) ?_
  · rintro W H v u p q z Q dv du hz ⟨i, rfl, h⟩
    cases p <;> simp only [cntM, reduceCtorEq] at hz
    rename_i t xs
    cases t <;> simp only [cntM, reduceCtorEq] at hz
    simp only [Option.map_eq_some_iff, PV.int.injEq] at hz
    obtain ⟨j, hj, e1⟩ := hz
    unfold cntF at hj
    split at hj
    · rename_i hok
      cases hj
      obtain ⟨h1, h2⟩ := okL hok.2
      obtain ⟨h3, h4⟩ := okEq_shaped hok.1
      obtain ⟨a', us, rfl, hs, dl⟩ := Dp_list dv h1
      exact ⟨a', u, _, _, rfl, rfl, dl, du.dp h3, h2, h4, by rw [e1]; exact h⟩
    · cases hj
  · intro p q z hz
    cases p <;> simp only [cntM, reduceCtorEq] at hz
    rename_i t xs
    cases t <;> simp only [cntM, reduceCtorEq] at hz
    simp only [Option.map_eq_some_iff] at hz
    obtain ⟨j, _, rfl⟩ := hz
    exact ⟨_, rfl⟩
  · obtain ⟨W, fr, st, R, q⟩ := q
    exact ⟨W, fr, st, R, q.imp (fun p st' h W' H' v x o R' D _ => h W' H' v x o R' D) fun _ _ _ z => z⟩
theorem base_ok {o : Expr} {nm : Str} (h : (match o with | .Call _ _ _ _ => false | _ => true) = true) (env : Env) : ∀ x, attributeBase o nm env x = x := by
  intro x
  cases o <;> first | rfl | cases h

/-! ### what is walked -/
theorem PI_imp {tg it : Expr} {t t' : TI} (h : PI X tg it t) (k : ∀ σ H R, Sz H → t' σ H R → t σ H (fun J H' => Sz H' → R J H')) : PI X tg it t' := by
  refine ⟨fun pins s σ H R I hw => ?_⟩
  exact thn (h.run pins s σ H _ I (k σ H R (Inv.sz' I) hw)) fun u s1 h1 => thn h1 fun v s2 ⟨i1, fp, tn, J, H', e, I1, tt, t0, tf, q⟩ => ⟨i1, fp, tn, J, H', e, I1, tt, t0, tf, q (Inv.sz' I1)⟩
/-- a list or a tuple -/
theorem pi_any {tg l : Expr} {tl : TE} (hl : PE X l tl) : PI X tg l (fun σ H R => tl σ H fun x H1 => ∃ a, x = .ref a ∧ ((∃ ys, SqL X.K H1 a ys ∧ R (Itl X.K a) H1) ∨ ∃ ys, SqT X.K H1 a ys ∧ (ys.length ≤ sizeLine → R (Itt X.K a) H1))) := by
  refine ⟨fun pins s σ H R I h => thn (hl.run pins s σ H _ I h) fun v s1 ⟨x, H1, I1, rv, a, ex, q⟩ => ?_⟩
  subst ex
  cases rv
  rcases q with ⟨ys, hq, q⟩ | ⟨ys, hq, q⟩
  · obtain ⟨its, _, pl, _⟩ := I1.list hq
    exact wpAny_pyIter_list pl.isList ⟨_, [s1.heap.objs.size], _, _, H1, rfl, I1.kept (t' := s1.toks) fun b o e => Heap.get?_push_of_some _ e, turn_list a _, ⟨_, Heap.get?_push_size _ rfl, rfl, rfl⟩,
      fun b hb => by obtain rfl := List.mem_singleton.mp hb; exact I1.fpOk (Nat.le_refl _) (I1.hok.fresh (Nat.le_refl _)), q⟩
  · obtain ⟨its, _, pl, hz⟩ := I1.tuple hq
    exact wpAny_pyIter_tuple (show s1.heap.IsTuple a its.toArray from pl) ⟨_, [s1.heap.objs.size], _, _, H1, rfl, I1.kept (t' := s1.toks) fun b o e => Heap.get?_push_of_some _ e, turn_tuple a _, ⟨_, Heap.get?_push_size _ rfl, rfl, rfl⟩,
      fun b hb => by obtain rfl := List.mem_singleton.mp hb; exact I1.fpOk (Nat.le_refl _) (I1.hok.fresh (Nat.le_refl _)), q hz⟩
theorem evI_S (a : E) : evI S (.itS a) = fun fr st => (evE S a fr st).bind fun x st => .of (seqF x) st := by funext fr st; simp only [evI]
theorem evI_R (l : E) : evI S (.itR l) = fun fr st => (evL S l fr st).bind fun xs st => .of (rngF xs) st := by funext fr st; simp only [evI]
theorem evI_E (a : E) : evI S (.itE a) = fun fr st => (evE S a fr st).bind fun x st => .of ((seqF x).map (enumF 0)) st := by funext fr st; simp only [evI]
theorem evI_Z (s : Bool) (a b : E) : evI S (.itZ s a b) = fun fr st => (evE S a fr st).bind fun x st => (evE S b fr st).bind fun y st => (Out.of (seqF x) st).bind fun xs st => (Out.of (seqF y) st).bind fun ys st => .of (zipM s xs ys) st := by funext fr st; simp only [evI]
/-- a list or tuple that stays -/
theorem den_stay {W : Wd} {H : Hp} {v : V} {p : PV} {xs : List PV} (I : ∀ a us, SqT X.K H a us → us.length ≤ sizeLine) (d : DenM X.K C W H v p) (h : seqF p = some xs) : ∃ t a us, v = .ref a ∧ SqStay X.K W H t a us ∧ Dens X.K C W H us xs := by
  cases p <;> simp only [seqF, reduceCtorEq] at h
  cases h
  rename_i t
  have d := d.den rfl
  cases d with
  | tup s ds => exact ⟨true, _, _, rfl, ⟨s, I _ _ s⟩, ds⟩
  | lst f s ds => exact ⟨false, _, _, rfl, ⟨f, s⟩, ds⟩
theorem pi_rS {tg a : Expr} {e : E} (ha : PE X a (tE X.K C Wx (evE S e))) : PI X tg a (tI X.K C Wx (evI S (.itS e))) := by
  refine PI_imp (pi_any ha) fun σ H Q _ q => ?_
  rw [evI_S] at q
  obtain ⟨W, fr, st, R, q⟩ := q
  refine ⟨W, fr, st, R, q.bind.imp (fun p st1 h1 W1 H1 v x o R1 D => ?_) fun _ _ _ z => z⟩
  obtain ⟨xs, hx, h2⟩ := Post.of h1
  cases p <;> simp only [seqF, reduceCtorEq] at hx
  cases hx
  rename_i t
  have d := D.den rfl
  cases d with
  | tup s ds => exact ⟨_, rfl, .inr ⟨_, s, fun hz _ => h2 W1 H1 _ x o R1 (.tup R1.s.sep R1.s.sz s hz ds)⟩⟩
  | lst f s ds => exact ⟨_, rfl, .inl ⟨_, SqL.of s, fun _ => h2 W1 H1 _ x o R1 (.list R1.s.sep R1.s.sz f s ds)⟩⟩
/-- a rule that also tells that tuples are of a bounded length -/
theorem PI_szt {tg it : Expr} {t t' : TI} (h : PI X tg it t) (k : ∀ σ H R, (∀ a us, SqT X.K H a us → us.length ≤ sizeLine) → t' σ H R → t σ H R) : PI X tg it t' := by
  refine ⟨fun pins s σ H R I hw => h.run pins s σ H R I (k σ H R (fun a us q => ?_) hw)⟩
  obtain ⟨its, r, _, hz⟩ := I.tuple q
  exact hz
theorem PA_szt {e : List Expr} {t t' : TA} (h : PA X e t) (k : ∀ σ H Q, t' σ H Q → t σ H (fun v H' => (∀ a us, SqT X.K H' a us → us.length ≤ sizeLine) → Q v H')) : PA X e t' := by
  refine ⟨fun pos pins s σ H Q I hw => ?_⟩
  refine thn (h.run pos pins s σ H _ I (k σ H Q hw)) fun u s1 ⟨x, H1, I1, r1, q1⟩ => ⟨x, H1, I1, r1, q1 fun a us q => ?_⟩
  obtain ⟨its, r, _, hz⟩ := I1.tuple q
  exact hz
def tSzA (K : PySem.W.Frag) (t : TA) : TA := fun σ H Q => t σ H fun v H' => (∀ a us, SqT K H' a us → us.length ≤ sizeLine) → Q v H'
theorem pi_rE {a : Expr} {elts : List Expr} {kk : Nat} {tpos p pos : Pos} {e : E} (hg : Gl X "enumerate") (hm : X.mg "enumerate" = none) (ns : noStar a = true) (ha : PE X a (tE X.K C Wx (evE S e))) : PI X (.Tuple elts kk tpos) (.Call (.Name "enumerate" p) [a] [] pos) (tI X.K C Wx (evI S (.itE e))) := by
  have ha2 : PA X [a] (tSzA X.K (tCons (tE X.K C Wx (evE S e)) tNil)) := PA_szt (pa_cons ha pa_nil (star_cons ns)) fun σ H Q q => q
  refine PI_imp (ZS.pi_en hg hm ha2 (star_cons ns)) fun σ H Q _ q => ?_
  rw [evI_E] at q
  obtain ⟨W, fr, st, R, q⟩ := q
  refine ⟨W, fr, st, R, q.bind.imp (fun p st1 h1 W1 H1 v x o R1 D hz => ?_) fun _ _ _ z => z⟩
  obtain ⟨ys, hy, h2⟩ := Post.of h1
  simp only [Option.map_eq_some_iff] at hy
  obtain ⟨xs, hx, rfl⟩ := hy
  obtain ⟨t, a', us, rfl, hs, ds⟩ := den_stay hz D hx
  exact ⟨a', us, t, rfl, hs.sq, fun _ => h2 W1 H1 _ x o R1 (.enum R1.s.sep R1.s.sz hs ds)⟩
theorem pi_rZ {a b : Expr} {elts : List Expr} {kk : Nat} {tpos p pos : Pos} {kws : List Keyword} {s : Bool} {e f : E} (hk : ZS.kwsOk s kws = true) (hg : Gl X "zip") (hm : X.mg "zip" = none) (ns : noStar a = true) (ns2 : noStar b = true) (ha : PE X a (tE X.K C Wx (evE S e))) (hb : PE X b (tE X.K C Wx (evE S f))) :
    PI X (.Tuple elts kk tpos) (.Call (.Name "zip" p) [a, b] kws pos) (tI X.K C Wx (evI S (.itZ s e f))) := by
  have ha2 : PA X [a, b] (tSzA X.K (tCons (tE X.K C Wx (evE S e)) (tCons (tE X.K C Wx (evE S f)) tNil))) := PA_szt (pa_cons ha (pa_cons hb pa_nil (star_cons ns2)) (star_cons ns)) fun σ H Q q => q
  refine PI_imp (ZS.pi_zipS hk hg hm ha2 (star_cons ns) (by rw [star_cons ns2]; rfl)) fun σ H Q _ q => ?_
  rw [evI_Z] at q
  obtain ⟨W, fr, st, R, q⟩ := q
  refine ⟨W, fr, st, R, q.bind.imp (fun p st1 h1 W1 H1 v x o R1 D => ⟨W1, fr, st1, R1, (Post.bind h1).imp (fun p2 st2 h2 W2 H2 u x2 o2 R2 D2 hz => ?_) fun _ _ _ z => EndX.shift z x o⟩) fun _ _ _ z => z⟩
  obtain ⟨xs, hx, h3⟩ := Post.of (Post.bind h2)
  obtain ⟨ys, hy, h4⟩ := Post.of (Post.bind h3)
  obtain ⟨zs, hzs, h5⟩ := Post.of h4
  obtain ⟨t1, a1, us, rfl, hs1, d1⟩ := den_stay hz (DenM.ext R1.s.sep x2 o2 D) hx
  obtain ⟨t2, a2, ws, rfl, hs2, d2⟩ := den_stay hz D2 hy
  have hl : (s = true → xs.length = ys.length) ∧ zs = zipF xs ys := by
    unfold zipM at hzs
    split at hzs
    · split at hzs
      · cases hzs
        exact ⟨fun _ => by assumption, rfl⟩
      · cases hzs
    · cases hzs
      exact ⟨fun h => absurd h (by assumption), rfl⟩
  obtain ⟨hl, rfl⟩ := hl
  exact ⟨a1, a2, us, ws, t1, t2, rfl, hs1.sq, hs2.sq, fun _ => h5 W2 H2 _ (x.trans x2) (o2.trans o) R2 (.zip R2.s.sep R2.s.sz hs1 hs2 d1 d2 hl)⟩
theorem DensM.one {W : Wd} {H : Hp} {vs : List V} {i : Int} (d : DensM X.K C W H vs [.int i]) : vs = [.int i] := by
  cases d with
  | cons d t =>
    cases t
    have := DenM.den d rfl
    cases this
    rfl
theorem DensM.two {W : Wd} {H : Hp} {vs : List V} {i j : Int} (d : DensM X.K C W H vs [.int i, .int j]) : vs = [.int i, .int j] := by
  cases d with
  | cons d t =>
    obtain rfl := DensM.one t
    have := DenM.den d rfl
    cases this
    rfl
theorem inR_ok {i : Int} (h : inRange i = true) : -(2 ^ 62) ≤ i ∧ i < 2 ^ 62 := by
  unfold inRange at h
  exact of_decide_eq_true h
theorem evL_len : ∀ {l : E} {fr : Frm} {st : Sto} {xs : List PV} {st' : Sto} {k : Nat}, (∀ fr st xs st', evL S l fr st = .ok xs st' → xs.length = k) → evL S l fr st = .ok xs st' → xs.length = k := fun h e => h _ _ _ _ e
theorem pi_rR1 {tg a : Expr} {p pos : Pos} {l : E} (hg : Gl X "range") (hm : X.mg "range" = none) (ns : noStar a = true) (ha : PA X [a] (tL X.K C Wx (evL S l))) (hl : ∀ fr st xs st', evL S l fr st = .ok xs st' → xs.length = 1) : PI X tg (.Call (.Name "range" p) [a] [] pos) (tI X.K C Wx (evI S (.itR l))) := by
  refine PI_imp (pi_range1 hg hm ha (star_cons ns)) fun σ H Q _ q => ?_
  rw [evI_R] at q
  obtain ⟨W, fr, st, R, q⟩ := q
  refine ⟨W, fr, st, R, ?_⟩
  have q1 := q.bind
  cases hh : evL S l fr st with
  | bad => rw [hh] at q1; exact q1.elim
  | exc c p st1 => rw [hh] at q1; exact q1
  | ok ps st1 =>
    rw [hh] at q1
    intro W1 H1 vs x o R1 D
    obtain ⟨ys, hy, h2⟩ := Post.of q1
    have hlen := hl _ _ _ _ hh
    unfold rngF at hy
    split at hy
    · rename_i j
      split at hy
      · rename_i hok
        cases hy
        obtain rfl := D.one
        have := inR_ok hok.1
        exact ⟨j, rfl, this.1, this.2, fun _ => h2 W1 H1 _ x o R1 (.range (fits_iff.mp hok.2))⟩
      · cases hy
    · simp at hlen
    · cases hy
theorem pi_rR2 {tg a b : Expr} {p pos : Pos} {l : E} (hg : Gl X "range") (hm : X.mg "range" = none) (ns : noStar a = true) (ns2 : noStar b = true) (ha : PA X [a, b] (tL X.K C Wx (evL S l))) (hl : ∀ fr st xs st', evL S l fr st = .ok xs st' → xs.length = 2) : PI X tg (.Call (.Name "range" p) [a, b] [] pos) (tI X.K C Wx (evI S (.itR l))) := by
  refine PI_imp (pi_range2 hg hm ha (by rw [star_cons ns, star_cons ns2]; rfl) (star_cons ns2)) fun σ H Q _ q => ?_
  rw [evI_R] at q
  obtain ⟨W, fr, st, R, q⟩ := q
  refine ⟨W, fr, st, R, ?_⟩
  have q1 := q.bind
  cases hh : evL S l fr st with
  | bad => rw [hh] at q1; exact q1.elim
  | exc c p st1 => rw [hh] at q1; exact q1
  | ok ps st1 =>
    rw [hh] at q1
    intro W1 H1 vs x o R1 D
    obtain ⟨ys, hy, h2⟩ := Post.of q1
    have hlen := hl _ _ _ _ hh
    unfold rngF at hy
    split at hy
    · simp at hlen
    · rename_i i j
      split at hy
      · rename_i hok
        cases hy
        obtain rfl := D.two
        have h3 := inR_ok hok.1
        have h4 := inR_ok hok.2.1
        exact ⟨i, j, rfl, ⟨h3.1, h3.2, h4.1, h4.2⟩, fun _ => h2 W1 H1 _ x o R1 (.range (fits_iff.mp hok.2.2))⟩
      · cases hy
    · cases hy
end
end Rm
set_option Elab.async false
set_option linter.all false
set_option maxHeartbeats 4000000
/-! Rule by rule, the sixth part: comprehensions. -/
namespace Rm
open PySem PySem.Spec L2
section
variable {K : PySem.W.Frag} {C : Nat → Addr} {W W' W2 : Wd} {H H' H2 : Hp} {D : Addr} {u u' : HO}

/-- a place outside the world is written -/
structure Off (W : Wd) (H : Hp) (D : Addr) : Prop where
  f : ¬ W.F D
  r : ∀ n, W.r n ≠ some D
  o : ∀ i, W.o i ≠ some D
  l : ∃ us, H D = some (.lst us)
theorem Ext.upd (x : Ext W H W' H') (hn : H D = none) : Ext W H W' (upd H' D u) where
  kp := fun b o e n => by
    rw [upd_ne (ne_of_none e hn)]
    exact x.kp b o e n
  th := fun b o e => by
    rw [upd_ne (ne_of_none e hn)]
    exact x.th b o e
  F := x.F
  Fn := x.Fn
  r := x.r
  rn := x.rn
theorem Off.keep (h : Off W H D) {us : List V} : ∀ a o, H a = some o → (W.F a ∨ ∀ us, o ≠ .lst us) → (L2.upd H D (.lst us)) a = some o := fun a o e q => by
  by_cases z : a = D
  · subst z
    obtain ⟨ws, hw⟩ := h.l
    rw [hw] at e
    cases e
    rcases q with q | q
    · exact absurd q h.f
    · exact absurd rfl (q ws)
  · rw [upd_ne z]
    exact e
theorem Off.den (h : Off W H D) {us : List V} {v : V} {p : PV} (d : Den K C W H v p) : Den K C W (L2.upd H D (.lst us)) v p := d.mono (fun _ z => z) (fun _ _ z => z) h.keep
theorem Off.dens (h : Off W H D) {us : List V} {v : List V} {p : List PV} (d : Dens K C W H v p) : Dens K C W (L2.upd H D (.lst us)) v p := d.mono (fun _ z => z) (fun _ _ z => z) h.keep
theorem Sz.upd {us : List V} (z : Sz H) (h : us.length ≤ sizeLine) : Sz (L2.upd H D (.lst us)) := fun b ws q => by
  by_cases e : b = D
  · subst e
    rcases q with (q | ⟨o, q⟩) | (q | ⟨o, q⟩) <;> rw [upd_same] at q <;> cases q
    exact h
  · rcases q with (q | ⟨o, q⟩) | (q | ⟨o, q⟩) <;> rw [upd_ne e] at q
    · exact z b ws (.inl (.inl q))
    · exact z b ws (.inl (.inr ⟨o, q⟩))
    · exact z b ws (.inr (.inl q))
    · exact z b ws (.inr (.inr ⟨o, q⟩))
theorem Off.sep (h : Off W H D) (S : Sep W H) {us : List V} : Sep W (L2.upd H D (.lst us)) where
  rl := fun n b e => by
    obtain ⟨ws, z⟩ := S.rl n b e
    exact ⟨ws, by rw [upd_ne (fun q => h.r n (by rw [← q]; exact e))]; exact z⟩
  ol := fun n b e => by
    obtain ⟨ws, z⟩ := S.ol n b e
    exact ⟨ws, by rw [upd_ne (fun q => h.o n (by rw [← q]; exact e))]; exact z⟩
  Fs := fun b e => by
    obtain ⟨ws, z⟩ := S.Fs b e
    exact ⟨ws, by rw [upd_ne (fun q => h.f (by rw [← q]; exact e))]; exact z⟩
  Fr := S.Fr
  Fo := S.Fo
  ro := S.ro
  rr := S.rr
  oo := S.oo
theorem Off.rel (h : Off W H D) {st : Sto} (R : RelS K C W H st) {us : List V} (hz : us.length ≤ sizeLine) : RelS K C W (L2.upd H D (.lst us)) st :=
  ⟨h.sep R.sep, R.sz.upd hz, fun n xs e => by
    obtain ⟨b, ws, h1, h2, h3⟩ := R.str n xs e
    exact ⟨b, ws, h1, by rw [upd_ne (fun q => h.r n (by rw [← q]; exact h1))]; exact h2, h.dens h3⟩, R.rn⟩
theorem Off.ext (h : Off W H D) (x : Ext W H W' H') (ho : ∀ i, W'.o i ≠ some D) : Off W' H' D := by
  obtain ⟨us, e⟩ := h.l
  refine ⟨fun z => ?_, fun n z => ?_, ho, us, x.kp D _ e h.r⟩
  · rcases x.Fn D z with q | q
    · exact h.f q
    · rw [e] at q
      cases q
  · rcases x.rn n D z with q | q
    · exact h.r n q
    · rw [e] at q
      cases q
theorem Off.withO (h : Off W H D) {o : Nat → Option Addr} (ho : ∀ i, o i ≠ some D) : Off (W.withO o) H D := ⟨h.f, h.r, ho, h.l⟩
theorem wipe_out {σ : St} {j : Nat} : ∀ {vs : List Nat}, j ∉ vs → (wipe σ vs)[j]? = σ[j]?
  | [], _ => rfl
  | v :: vs, h => by
    simp only [List.mem_cons, not_or] at h
    unfold wipe
    rw [List.getElem?_set_ne (Ne.symm h.1)]
    exact wipe_out h.2
theorem wipeF_length {fr : Frm} : ∀ vs : List Nat, (wipeF fr vs).length = fr.length
  | [] => rfl
  | v :: vs => by unfold wipeF; rw [List.length_set, wipeF_length vs]
/-- the frame that wipes its own slots -/
theorem ExtW {W W1 : Wd} {H H1 : Hp} {o : Nat → Option Addr} (x : Ext W H (W1.withO o) H1) : Ext W H W1 H1 := ⟨x.kp, x.th, x.F, x.Fn, x.r, x.rn⟩
theorem ExtO {W W1 : Wd} {H H1 : Hp} {o : Nat → Option Addr} (x : Ext (W.withO o) H W1 H1) : Ext W H W1 H1 := ⟨x.kp, x.th, x.F, x.Fn, x.r, x.rn⟩

/-- what holds ahead of each turn -/
structure Turned (K : PySem.W.Frag) (C : Nat → Addr) (els : Frm → Sto → Out PV) (cnd : Frm → Sto → Out Bool) (tg : T) (fr : Frm) (fin : Out (List PV)) (W1 : Wd) (H1 : Hp) (D : Addr) (xs : List PV) (i : Nat) (H : Hp) : Prop where
  ex : ∃ W st acc us, Ext W1 H1 W H ∧ W.o = W1.o ∧ RelS K C W H st ∧ Off W H D ∧ H D = some (.lst us) ∧ Dens K C W H us acc ∧ us.length ≤ i ∧ compRun els cnd tg fr (xs.drop i) acc st = fin
end
section
variable {C : Nat → Addr} {Wx : WX} {S : Sig} {X : Cx} {n : Nat}

/-- the loop of a comprehension -/
theorem comp_loop {K : PySem.W.Frag} {els : Frm → Sto → Out PV} {cnd : Frm → Sto → Out Bool} {tg : T} {vs : List Nat} {σ : St} {W W1 : Wd} {H H1 : Hp} {fr : Frm} {st1 : Sto} {xs ys : List PV} {stE : Sto} {J : It} {D : Addr} {Q : VK}
    (hsub : ∀ i ∈ slotsT tg, i ∈ vs) (hrun : compRun els cnd tg (wipeF fr vs) xs [] st1 = .ok ys stE) (hx : Ext W H W1 H1) (ho : W1.o = W.o) (R1 : Rel K C W1 H1 σ fr st1) (wk : WalkOk K C W1 H1 J xs) (hD : H1 D = none)
    (hq : EndFr K C W H σ fr stE (.seq false ys) Q) :
    ∃ V : Nat → Nat → Hp → Prop, (∃ m, V 0 m (upd H1 D (.lst []))) ∧ ∀ i m H, V i m H →
      (J.stop i H ∧ Q (.ref D) H) ∨ (J.go i H ∧ ∃ Nx : Hp → Prop, (∀ H', Nx H' → ∃ m', m' < m ∧ V (i + 1) m' H') ∧ ∀ x H', J.yld i H x H' → gOf K tg x (wipe σ vs) H' fun σ2 H2 => wipe σ2 vs = wipe σ vs ∧ tT K C (fun _ _ _ _ => False) cnd σ2 H2 fun b H3 =>
        if b = true then tE K C (fun _ _ _ _ => False) els σ2 H3 fun y H4 => ∃ acc, H4 D = some (.lst acc) ∧ acc.length < sizeLine ∧ Nx (upd H4 D (.lst (acc ++ [y]))) else Nx H3) := by
  obtain ⟨G, Y, w, hG, hY⟩ := wk.ex
  obtain ⟨f1, f2, f3⟩ := R1.s.sep.free hD
  have off0 : Off W1 (upd H1 D (.lst [])) D := ⟨f1, f2, f3, [], upd_same⟩
  refine lc_it w (Turned K C els cnd tg (wipeF fr vs) (.ok ys stE) W1 H1 D xs) ?_ ?_ ?_ ?_
  · refine ⟨W1, st1, [], [], Ext.new hD, rfl, ?_, off0, upd_same, .nil, Nat.zero_le _, hrun⟩
    exact ⟨R1.s.sep.new hD, R1.s.sz.upd (Nat.zero_le _), fun m zs e => by
      obtain ⟨b, us, h1, h2, h3⟩ := R1.s.str m zs e
      exact ⟨b, us, h1, by rw [upd_ne (ne_of_none h2 hD)]; exact h2, h3.ext R1.s.sep (Ext.new hD)⟩, R1.s.rn⟩
  · rintro i H2 _ ⟨W2, st2, acc, us, x2, o2, _⟩
    exact hG W2 H2 ((x2.toS o2).toP R1.s.sep)
  · rintro i x H2 H3 hi ⟨W2, st2, acc, us, x2, o2, R2, of2, hd2, D2, len2, run2⟩ y
    obtain ⟨p, hp, dp, x3, s3, z3⟩ := hY W2 H2 i x H3 ((x2.toS o2).toP R1.s.sep) R2.sep R2.sz y
    have hdrop : xs.drop i = p :: xs.drop (i + 1) := by
      obtain ⟨hl, rfl⟩ := List.getElem?_eq_some_iff.mp hp
      exact List.drop_eq_getElem_cons hl
    rw [hdrop] at run2
    unfold compRun at run2
    cases ha : asg tg p (wipeF fr vs) with
    | none => rw [ha] at run2; cases run2
    | some fr1 =>
      rw [ha] at run2
      dsimp only at run2
      have R3 : RelS K C W2 H3 st2 := R2.all x3 s3 z3
      have e3 : Ext W2 H2 W2 H3 := Ext.all x3
      have R3' : Rel K C W2 H3 σ fr st2 := (R1.ext x2 o2 R2).ext e3 rfl R3
      have of3 : Off W2 H3 D := ⟨of2.f, of2.r, of2.o, us, x3 _ _ hd2⟩
      have hd3 : H3 D = some (.lst us) := x3 _ _ hd2
      refine asg_ok ha dp (R3'.slots.wipe vs) fun σ2 sl l2 k2 => ⟨?_, ?_⟩
      · refine wipe_eq (l2.trans (wipe_length ..)) fun j hj => ?_
        rw [k2 j (fun z => hj (hsub j z)), wipe_out hj]
      have Ri := sl.rel R3
      refine ⟨_, fr1, st2, Ri, ?_⟩
      have oo : ∀ {i}, onlyO W2 fr1 i ≠ some D := fun e => of2.o _ (onlyO_le e).1
      -- the test
      cases hc : cnd fr1 st2 with
      | bad => rw [hc] at run2; cases run2
      | exc c p st3 => rw [hc] at run2; cases run2
      | ok b st3 =>
        rw [hc] at run2
        intro W4 H4 x4 o4 R4
        have x4b := x4.back
        have R4b : RelS K C (W4.withO W2.o) H4 st3 := RelS.back R3.sep x4 R4.s
        have of4 : Off (W4.withO W2.o) H4 D := of3.ext x4b of2.o
        have hd4 : H4 D = some (.lst us) := x4.kp D _ hd3 of2.r
        have x14 : Ext W1 H1 (W4.withO W2.o) H4 := (x2.trans e3).trans x4b
        have D4 : Dens K C (W4.withO W2.o) H4 us acc := (D2.ext R2.sep e3).ext R3.sep x4b
        cases b with
        | false =>
          simp only [Bool.false_eq_true, if_false]
          exact ⟨_, st3, acc, us, x14, o2, R4b, of4, hd4, D4, Nat.le_succ_of_le len2, run2⟩
        | true =>
          simp only [if_true]
          refine ⟨W4, fr1, st3, R4, ?_⟩
          dsimp only at run2
          cases he : els fr1 st3 with
          | bad => rw [he] at run2; cases run2
          | exc c p st5 => rw [he] at run2; cases run2
          | ok z st5 =>
            rw [he] at run2
            dsimp only at run2
            split at run2
            · rename_i hk
              intro W5 H5 v x5 o5 R5 dz
              have x5b : Ext (W4.withO W2.o) H4 (W5.withO W2.o) H5 := ExtO (o := W4.o) ⟨x5.kp, x5.th, x5.F, x5.Fn, x5.r, x5.rn⟩
              have R5b : RelS K C (W5.withO W2.o) H5 st5 := RelS.back (W := W4.withO W2.o) (o := W4.o) R4b.sep x5 R5.s
              have of5 : Off (W5.withO W2.o) H5 D := of4.ext x5b of2.o
              have hd5 : H5 D = some (.lst us) := x5.kp D _ hd4 of4.r
              have hlt : us.length < sizeLine := Nat.lt_of_le_of_lt len2 (Nat.lt_of_lt_of_le hi wk.sz)
              have D5 : Dens K C (W5.withO W2.o) H5 us acc := D4.ext R4b.sep x5b
              have hl1 : (us ++ [v]).length = us.length + 1 := by simp
              refine ⟨us, hd5, hlt, W5.withO W2.o, st5, acc ++ [z], us ++ [v], (x14.trans x5b).upd hD, o2, of5.rel R5b (by omega), ?_, upd_same, ?_, by omega, run2⟩
              · exact ⟨of5.f, of5.r, of5.o, _, upd_same⟩
              · exact of5.dens (D5.app (.cons ((dz.den hk).withO) .nil))
            · cases run2
  · rintro H2 ⟨W2, st2, acc, us, x2, o2, R2, of2, hd2, D2, len2, run2⟩
    rw [List.drop_length] at run2
    unfold compRun at run2
    cases run2
    exact hq.2 W2 H2 D us _ rfl (hx.trans x2) (o2.trans ho) (R1.ext x2 o2 R2) hd2 D2 of2.f of2.r of2.o (hx.free hD)
/-- as lc_it, from any heap -/
theorem lc_from {J : It} {n : Nat} {G : Hp → Prop} {Y : Nat → Hp → V → Hp → Prop} (w : Walk J n G Y) {g : TG} {tt : TT} {te : TE} {vs : List Nat} {σ : St} {H0 : Hp} {D : Addr} {Qd : Hp → Prop} (Pv : Nat → Hp → Prop) (h0 : Pv 0 H0) (hG : ∀ i H, i ≤ n → Pv i H → G H)
    (hs : ∀ i x H H', i < n → Pv i H → Y i H x H' → g x (wipe σ vs) H' fun σ2 H2 => wipe σ2 vs = wipe σ vs ∧ tt σ2 H2 fun b H3 =>
      if b = true then te σ2 H3 fun y H4 => ∃ acc, H4 D = some (.lst acc) ∧ acc.length < sizeLine ∧ Pv (i + 1) (upd H4 D (.lst (acc ++ [y]))) else Pv (i + 1) H3) (hd : ∀ H, Pv n H → Qd H) :
    ∃ W : Nat → Nat → Hp → Prop, (∃ m, W 0 m H0) ∧ ∀ i m H, W i m H →
      (J.stop i H ∧ Qd H) ∨ (J.go i H ∧ ∃ Nx : Hp → Prop, (∀ H', Nx H' → ∃ m', m' < m ∧ W (i + 1) m' H') ∧ ∀ x H', J.yld i H x H' → g x (wipe σ vs) H' fun σ2 H2 => wipe σ2 vs = wipe σ vs ∧ tt σ2 H2 fun b H3 =>
        if b = true then te σ2 H3 fun y H4 => ∃ acc, H4 D = some (.lst acc) ∧ acc.length < sizeLine ∧ Nx (upd H4 D (.lst (acc ++ [y]))) else Nx H3) := by
  refine ⟨fun i m H => m = n - i ∧ i ≤ n ∧ Pv i H, ⟨n, by simp, Nat.zero_le _, h0⟩, ?_⟩
  rintro i m H ⟨rfl, hi, p⟩
  have q := hG i H hi p
  by_cases hlt : i < n
  · exact .inr ⟨w.goes i H hlt q, Pv (i + 1), fun H' p' => ⟨n - (i + 1), by omega, rfl, hlt, p'⟩, fun x H' y => hs i x H H' hlt p (w.yields i H x H' hlt q y)⟩
  · have e : i = n := by omega
    subst e
    exact .inl ⟨w.stops H q, hd H p⟩
/-- as Ext, but the list at D may change -/
structure ExtX (D : Addr) (W : Wd) (H : Hp) (W' : Wd) (H' : Hp) : Prop where
  kp : ∀ b u, b ≠ D → H b = some u → (∀ n, W.r n ≠ some b) → H' b = some u
  th : ∀ b u, H b = some u → ∃ u', H' b = some u'
  F : ∀ a, W.F a → W'.F a
  Fn : ∀ a, W'.F a → W.F a ∨ H a = none
  r : ∀ n a, W.r n = some a → W'.r n = some a
  rn : ∀ n a, W'.r n = some a → W.r n = some a ∨ H a = none
theorem ExtX.of {D : Addr} {W W' : Wd} {H H' : Hp} (x : Ext W H W' H') : ExtX D W H W' H' := ⟨fun b u _ e n => x.kp b u e n, x.th, x.F, x.Fn, x.r, x.rn⟩
theorem ExtX.free {D : Addr} {W W' : Wd} {H H' : Hp} (X : ExtX D W H W' H') {a : Addr} (h : H' a = none) : H a = none := by
  cases q : H a with
  | none => rfl
  | some u =>
    obtain ⟨u', e⟩ := X.th a u q
    rw [h] at e
    cases e
theorem ExtX.trans {D : Addr} {W W' W2 : Wd} {H H' H2 : Hp} (X : ExtX D W H W' H') (Y : ExtX D W' H' W2 H2) : ExtX D W H W2 H2 where
  kp := fun b u d h n => Y.kp b u d (X.kp b u d h n) fun m e => by
    rcases X.rn m b e with z | z
    · exact n m z
    · rw [h] at z
      cases z
  th := fun b u h => by
    obtain ⟨u1, h1⟩ := X.th b u h
    exact Y.th b u1 h1
  F := fun a h => Y.F a (X.F a h)
  Fn := fun a h => by
    rcases Y.Fn a h with z | z
    · exact X.Fn a z
    · exact .inr (X.free z)
  r := fun n a h => Y.r n a (X.r n a h)
  rn := fun n a h => by
    rcases Y.rn n a h with z | z
    · exact X.rn n a z
    · exact .inr (X.free z)
theorem ExtX.put {D : Addr} {W : Wd} {H : Hp} {u : HO} (h : ∃ u, H D = some u) : ExtX D W H W (L2.upd H D u) where
  kp := fun b o d e _ => by rw [upd_ne d]; exact e
  th := fun b o e => by
    by_cases z : b = D
    · subst z; exact ⟨u, upd_same⟩
    · exact ⟨o, by rw [upd_ne z]; exact e⟩
  F := fun _ h => h
  Fn := fun _ h => .inl h
  r := fun _ _ h => h
  rn := fun _ _ h => .inl h
/-- from where D was not yet -/
theorem Ext.transX {D : Addr} {W W' W2 : Wd} {H H' H2 : Hp} (X : Ext W H W' H') (Y : ExtX D W' H' W2 H2) (hD : H D = none) : Ext W H W2 H2 where
  kp := fun b u h n => Y.kp b u (fun z => by rw [z, hD] at h; cases h) (X.kp b u h n) fun m e => by
    rcases X.rn m b e with z | z
    · exact n m z
    · rw [h] at z
      cases z
  th := fun b u h => by
    obtain ⟨u1, h1⟩ := X.th b u h
    exact Y.th b u1 h1
  F := fun a h => Y.F a (X.F a h)
  Fn := fun a h => by
    rcases Y.Fn a h with z | z
    · exact X.Fn a z
    · exact .inr (X.free z)
  r := fun n a h => Y.r n a (X.r n a h)
  rn := fun n a h => by
    rcases Y.rn n a h with z | z
    · exact X.rn n a z
    · exact .inr (X.free z)
theorem ExtX.toP {D : Addr} {W W' : Wd} {H H' : Hp} (S : Sep W H) (off : Off W H D) (x : ExtX D W H W' H') : ExtP W H W' H' := ⟨fun a u e q => x.kp a u (fun z => by
    obtain ⟨us, e'⟩ := off.l
    subst z
    rcases q with q | q
    · exact off.f q
    · rw [e] at e'
      exact q us (Option.some.inj e')) e fun n z => by
    obtain ⟨us, e'⟩ := S.rl n a z
    rcases q with q | q
    · exact S.Fr a n q z
    · rw [e] at e'
      exact q us (Option.some.inj e'), x.F, x.r⟩
theorem Rel.extX {K : PySem.W.Frag} {C : Nat → Addr} {D : Addr} {W W' : Wd} {H H' : Hp} {σ : St} {fr : Frm} {st st' : Sto} (R : Rel K C W H σ fr st) (off : Off W H D) (X : ExtX D W H W' H') (ho : W'.o = W.o) (S : RelS K C W' H' st') : Rel K C W' H' σ fr st' where
  s := S
  len := R.len
  slt := fun i p h => by
    obtain ⟨v, h1, h2⟩ := R.slt i p h
    exact ⟨v, h1, h2.extP (X.toP R.s.sep off)⟩
  own := fun i xs h => by
    obtain ⟨a, us, h1, h2, h3, h4⟩ := R.own i xs h
    exact ⟨a, us, h1, by rw [ho]; exact h2, X.kp a _ (fun z => off.o i (by rw [← z]; exact h2)) h3 fun n z => R.s.sep.ro n i a z h2, h4.extP (X.toP R.s.sep off)⟩
  on := fun i a h => R.on i a (by rw [← ho]; exact h)
/-- what holds ahead of each turn, the list already begun -/
structure TurnedB (K : PySem.W.Frag) (C : Nat → Addr) (els : Frm → Sto → Out PV) (cnd : Frm → Sto → Out Bool) (tg : T) (fr : Frm) (fin : Out (List PV)) (W1 : Wd) (H1 : Hp) (D : Addr) (xs : List PV) (b i : Nat) (H : Hp) : Prop where
  ex : ∃ W st acc us, ExtX D W1 H1 W H ∧ W.o = W1.o ∧ RelS K C W H st ∧ Off W H D ∧ H D = some (.lst us) ∧ Dens K C W H us acc ∧ us.length ≤ b + i ∧ compRun els cnd tg fr (xs.drop i) acc st = fin
/-- a comprehension's inner loop -/
theorem comp_loopB {K : PySem.W.Frag} {C : Nat → Addr} {els : Frm → Sto → Out PV} {cnd : Frm → Sto → Out Bool} {tg : T} {vs : List Nat} {σ : St} {W1 : Wd} {H1 : Hp} {fr : Frm} {st1 : Sto} {xs ys acc0 : List PV} {us0 : List V} {stE : Sto} {J : It} {D : Addr} {Qd : Hp → Prop}
    (hsub : ∀ i ∈ slotsT tg, i ∈ vs) (hrun : compRun els cnd tg (wipeF fr vs) xs acc0 st1 = .ok ys stE) (R1 : Rel K C W1 H1 σ fr st1) (wk : WalkOk K C W1 H1 J xs) (off : Off W1 H1 D) (hd : H1 D = some (.lst us0)) (D0 : Dens K C W1 H1 us0 acc0) (hb : us0.length + xs.length ≤ sizeLine)
    (hq : ∀ W2 H2 us, ExtX D W1 H1 W2 H2 → W2.o = W1.o → RelS K C W2 H2 stE → Off W2 H2 D → H2 D = some (.lst us) → Dens K C W2 H2 us ys → Qd H2) :
    ∃ V : Nat → Nat → Hp → Prop, (∃ m, V 0 m H1) ∧ ∀ i m H, V i m H →
      (J.stop i H ∧ Qd H) ∨ (J.go i H ∧ ∃ Nx : Hp → Prop, (∀ H', Nx H' → ∃ m', m' < m ∧ V (i + 1) m' H') ∧ ∀ x H', J.yld i H x H' → gOf K tg x (wipe σ vs) H' fun σ2 H2 => wipe σ2 vs = wipe σ vs ∧ tT K C (fun _ _ _ _ => False) cnd σ2 H2 fun b H3 =>
        if b = true then tE K C (fun _ _ _ _ => False) els σ2 H3 fun y H4 => ∃ acc, H4 D = some (.lst acc) ∧ acc.length < sizeLine ∧ Nx (upd H4 D (.lst (acc ++ [y]))) else Nx H3) := by
  obtain ⟨G, Y, w, hG, hY⟩ := wk.ex
  refine lc_from w (TurnedB K C els cnd tg (wipeF fr vs) (.ok ys stE) W1 H1 D xs us0.length) ?_ ?_ ?_ ?_
  · exact ⟨W1, st1, acc0, us0, ExtX.of (Ext.refl _ _), rfl, R1.s, off, hd, D0, Nat.le_refl _, hrun⟩
  · rintro i H2 _ ⟨W2, st2, acc, us, x2, o2, _⟩
    exact hG W2 H2 (x2.toP R1.s.sep off)
  · rintro i x H2 H3 hi ⟨W2, st2, acc, us, x2, o2, R2, of2, hd2, D2, len2, run2⟩ y
    obtain ⟨p, hp, dp, x3, s3, z3⟩ := hY W2 H2 i x H3 (x2.toP R1.s.sep off) R2.sep R2.sz y
    have hdrop : xs.drop i = p :: xs.drop (i + 1) := by
      obtain ⟨hl, rfl⟩ := List.getElem?_eq_some_iff.mp hp
      exact List.drop_eq_getElem_cons hl
    rw [hdrop] at run2
    unfold compRun at run2
    cases ha : asg tg p (wipeF fr vs) with
    | none => rw [ha] at run2; cases run2
    | some fr1 =>
      rw [ha] at run2
      dsimp only at run2
      have R3 : RelS K C W2 H3 st2 := R2.all x3 s3 z3
      have e3 : Ext W2 H2 W2 H3 := Ext.all x3
      have x13 : ExtX D W1 H1 W2 H3 := x2.trans (ExtX.of e3)
      have R3' : Rel K C W2 H3 σ fr st2 := R1.extX off x13 o2 R3
      have of3 : Off W2 H3 D := ⟨of2.f, of2.r, of2.o, us, x3 _ _ hd2⟩
      have hd3 : H3 D = some (.lst us) := x3 _ _ hd2
      refine asg_ok ha dp (R3'.slots.wipe vs) fun σ2 sl l2 k2 => ⟨?_, ?_⟩
      · refine wipe_eq (l2.trans (wipe_length ..)) fun j hj => ?_
        rw [k2 j (fun z => hj (hsub j z)), wipe_out hj]
      have Ri := sl.rel R3
      refine ⟨_, fr1, st2, Ri, ?_⟩
      have oo : ∀ {i}, onlyO W2 fr1 i ≠ some D := fun e => of2.o _ (onlyO_le e).1
      cases hc : cnd fr1 st2 with
      | bad => rw [hc] at run2; cases run2
      | exc c p st3 => rw [hc] at run2; cases run2
      | ok b st3 =>
        rw [hc] at run2
        intro W4 H4 x4 o4 R4
        have x4b := x4.back
        have R4b : RelS K C (W4.withO W2.o) H4 st3 := RelS.back R3.sep x4 R4.s
        have of4 : Off (W4.withO W2.o) H4 D := of3.ext x4b of2.o
        have hd4 : H4 D = some (.lst us) := x4.kp D _ hd3 of2.r
        have x14 : ExtX D W1 H1 (W4.withO W2.o) H4 := x13.trans (ExtX.of x4b)
        have D4 : Dens K C (W4.withO W2.o) H4 us acc := (D2.ext R2.sep e3).ext R3.sep x4b
        cases b with
        | false =>
          simp only [Bool.false_eq_true, if_false]
          exact ⟨_, st3, acc, us, x14, o2, R4b, of4, hd4, D4, by omega, run2⟩
        | true =>
          simp only [if_true]
          refine ⟨W4, fr1, st3, R4, ?_⟩
          dsimp only at run2
          cases he : els fr1 st3 with
          | bad => rw [he] at run2; cases run2
          | exc c p st5 => rw [he] at run2; cases run2
          | ok z st5 =>
            rw [he] at run2
            dsimp only at run2
            split at run2
            · rename_i hk
              intro W5 H5 v x5 o5 R5 dz
              have x5b : Ext (W4.withO W2.o) H4 (W5.withO W2.o) H5 := ExtO (o := W4.o) ⟨x5.kp, x5.th, x5.F, x5.Fn, x5.r, x5.rn⟩
              have R5b : RelS K C (W5.withO W2.o) H5 st5 := RelS.back (W := W4.withO W2.o) (o := W4.o) R4b.sep x5 R5.s
              have of5 : Off (W5.withO W2.o) H5 D := of4.ext x5b of2.o
              have hd5 : H5 D = some (.lst us) := x5.kp D _ hd4 of4.r
              have hlt : us.length < sizeLine := by omega
              have D5 : Dens K C (W5.withO W2.o) H5 us acc := D4.ext R4b.sep x5b
              have hl1 : (us ++ [v]).length = us.length + 1 := by simp
              refine ⟨us, hd5, hlt, W5.withO W2.o, st5, acc ++ [z], us ++ [v], (x14.trans (ExtX.of x5b)).trans (ExtX.put ⟨_, hd5⟩), o2, of5.rel R5b (by omega), ?_, upd_same, ?_, by omega, run2⟩
              · exact ⟨of5.f, of5.r, of5.o, _, upd_same⟩
              · exact of5.dens (D5.app (.cons ((dz.den hk).withO) .nil))
            · cases run2
  · rintro H2 ⟨W2, st2, acc, us, x2, o2, R2, of2, hd2, D2, len2, run2⟩
    rw [List.drop_length] at run2
    unfold compRun at run2
    cases run2
    exact hq W2 H2 us x2 o2 R2 of2 hd2 D2
end
end Rm
set_option Elab.async false
set_option linter.all false
set_option maxHeartbeats 8000000
/-! Which term stands for which expression; a term's promise is the machine's. -/
namespace Rm
open PySem PySem.Spec L2
section
variable {C : Nat → Addr} {Wx : WX} {S : Sig} {X : Cx} {n : Nat}
abbrev W0 : WX := fun _ _ _ _ => False
theorem evE_comp (vs : List Nat) (e : E) (t : T) (i c : E) : evE S (.comp vs e t i c) = fun fr st => (evI S i fr st).bind fun xs st => (compRun (evE S e) (evC S c) t (wipeF fr vs) xs [] st).bind fun ys st => .ok (.seq false ys) st := by funext fr st; simp only [evE, evC]
theorem compRun_out {els : Frm → Sto → Out PV} {cnd : Frm → Sto → Out Bool} {tg : T} {fr : Frm} : ∀ {xs acc : List PV} {st : Sto}, (∃ ys st', compRun els cnd tg fr xs acc st = .ok ys st') ∨ compRun els cnd tg fr xs acc st = .bad
  | [], acc, st => .inl ⟨acc, st, by simp only [compRun]⟩
  | x :: xs, acc, st => by
    unfold compRun
    split
    · exact .inr rfl
    · split
      · split
        · split
          · exact compRun_out
          · exact .inr rfl
        · exact .inr rfl
      · exact compRun_out
      · exact .inr rfl
/-- the reading of a comprehension -/
theorem comp_t {i : E} {e c : E} {t : T} {vs : List Nat} {σ : St} {H : Hp} {Q : VK} (hsub : ∀ j ∈ slotsT t, j ∈ vs) (q : tFr X.K C Wx (evE S (.comp vs e t i c)) σ H Q) :
    tLc (tI X.K C Wx (evI S i)) (gOf X.K t) (tT X.K C W0 (evC S c)) (tE X.K C W0 (evE S e)) vs σ H Q := by
  rw [evE_comp] at q
  obtain ⟨W, fr, st, R, q⟩ := q
  refine ⟨W, fr, st, R, q.bind.imp (fun xs st1 h1 W1 H1 J x o R1 wk D hD => ?_) fun _ _ _ z => z⟩
  rcases compRun_out (els := evE S e) (cnd := evC S c) (tg := t) (fr := wipeF fr vs) (xs := xs) (acc := []) (st := st1) with ⟨ys, stE, hr⟩ | hr
  · rw [hr] at h1
    exact comp_loop hsub hr x o R1 wk hD h1
  · rw [hr] at h1
    exact h1.elim
theorem pe_rcomp {elt tg iter : Expr} {ifs : List Expr} {scope : Scope} {own : List (Str × Nat)} {pos : Pos} {t : T} {e i c : E} (hc : X.calm = true) (hN : X.N.Nodup) (hi : PI X tg iter (tI X.K C Wx (evI S i))) (ok : BlkOk X.N X.env.scope scope own)
    (hg : ∀ (s : Shared) (H : Hp) (D : Addr) (cl : List (Str × Addr)) (fp : List Addr), PG (X.blk s H scope (compEnvC scope cl D X.env) fp) tg (gOf X.K t)) (ht : ∀ (s : Shared) (H : Hp) (D : Addr) (cl : List (Str × Addr)) (fp : List Addr), PTs (X.blk s H scope (compEnvC scope cl D X.env) fp) ifs (tT X.K C W0 (evC S c)))
    (he : ∀ (s : Shared) (H : Hp) (D : Addr) (cl : List (Str × Addr)) (fp : List Addr), PE (X.blk s H scope (compEnvC scope cl D X.env) fp) elt (tE X.K C W0 (evE S e))) (hs : ∀ x, foldedSetIterable iter X.env x = pure x) (hsub : ∀ j ∈ slotsT t, j ∈ own.map (·.2)) :
    PE X (.ListComp elt [⟨tg, iter, ifs, 0⟩] scope pos) (tFr X.K C Wx (evE S (.comp (own.map (·.2)) e t i c))) :=
  PE_imp (pe_lc hc hN hi ok hg ht he hs) fun σ H Q _ q => by
    have := comp_t hsub q
    obtain ⟨W, fr, st, R, q⟩ := q
    exact comp_t hsub ⟨W, fr, st, R, q.imp (fun z st' e => ⟨fun W' H' v hp x o R' D _ => e.1 W' H' v hp x o R' D, fun W' H' a us xs hp x o R' e1 D n1 n2 n3 hn _ => e.2 W' H' a us xs hp x o R' e1 D n1 n2 n3 hn⟩) fun _ _ _ z => z⟩
theorem evE_comp2 (vs vs1 : List Nat) (e : E) (t t1 : T) (i i1 : E) : evE S (.comp2 vs e t i vs1 t1 i1) = fun fr st => (evI S i fr st).bind fun xs st => (comp2Run (evI S i1) (evE S e) t t1 vs1 (wipeF fr vs) xs [] st).bind fun ys st => .ok (.seq false ys) st := by funext fr st; simp only [evE]
theorem comp2Run_out {ev2 : Frm → Sto → Out (List PV)} {els : Frm → Sto → Out PV} {tg tg2 : T} {vs1 : List Nat} {fr : Frm} : ∀ {xs acc : List PV} {st : Sto}, (∃ ys st', comp2Run ev2 els tg tg2 vs1 fr xs acc st = .ok ys st') ∨ comp2Run ev2 els tg tg2 vs1 fr xs acc st = .bad
  | [], acc, st => .inl ⟨acc, st, by simp only [comp2Run]⟩
  | x :: xs, acc, st => by
    unfold comp2Run
    split
    · exact .inr rfl
    · split
      · split
        · split
          · exact comp2Run_out
          · exact .inr rfl
        · exact .inr rfl
      · exact .inr rfl
/-- what holds ahead of each outer turn -/
structure Turned2 (K : PySem.W.Frag) (C : Nat → Addr) (ev2 : Frm → Sto → Out (List PV)) (els : Frm → Sto → Out PV) (tg tg2 : T) (vs1 : List Nat) (fr : Frm) (fin : Out (List PV)) (W1 : Wd) (H1 : Hp) (D : Addr) (xs : List PV) (i : Nat) (H : Hp) : Prop where
  ex : ∃ W st acc us, Ext W1 H1 W H ∧ W.o = W1.o ∧ RelS K C W H st ∧ Off W H D ∧ H D = some (.lst us) ∧ Dens K C W H us acc ∧ comp2Run ev2 els tg tg2 vs1 fr (xs.drop i) acc st = fin
theorem comp_loop2 {K : PySem.W.Frag} {C : Nat → Addr} {ev2 : Frm → Sto → Out (List PV)} {els : Frm → Sto → Out PV} {tg tg2 : T} {vs vs1 : List Nat} {σ : St} {W W1 : Wd} {H H1 : Hp} {fr : Frm} {st1 : Sto} {xs ys : List PV} {stE : Sto} {J : It} {D : Addr} {Q : VK}
    (hsub : ∀ i ∈ slotsT tg, i ∈ vs) (hsub1 : ∀ i ∈ slotsT tg2, i ∈ vs1) (hrun : comp2Run ev2 els tg tg2 vs1 (wipeF fr vs) xs [] st1 = .ok ys stE) (hx : Ext W H W1 H1) (ho : W1.o = W.o) (R1 : Rel K C W1 H1 σ fr st1) (wk : WalkOk K C W1 H1 J xs) (hD : H1 D = none)
    (hq : EndFr K C W H σ fr stE (.seq false ys) Q) :
    ∃ V : Nat → Nat → Hp → Prop, (∃ m, V 0 m (upd H1 D (.lst []))) ∧ ∀ i m H, V i m H →
      (J.stop i H ∧ Q (.ref D) H) ∨ (J.go i H ∧ ∃ Nx : Hp → Prop, (∀ H', Nx H' → ∃ m', m' < m ∧ V (i + 1) m' H') ∧ ∀ x H', J.yld i H x H' → gOf K tg x (wipe σ vs) H' fun σ2 H2 => wipe σ2 vs = wipe σ vs ∧ tYes σ2 H2 fun b H3 =>
        if b = true then tI K C W0 ev2 σ2 H3 fun J1 H4 => ∃ V1 : Nat → Nat → Hp → Prop, (∃ m, V1 0 m H4) ∧ ∀ j k H, V1 j k H →
          (J1.stop j H ∧ Nx H) ∨ (J1.go j H ∧ ∃ Nx1 : Hp → Prop, (∀ H', Nx1 H' → ∃ k', k' < k ∧ V1 (j + 1) k' H') ∧ ∀ x H', J1.yld j H x H' → gOf K tg2 x (wipe σ2 vs1) H' fun σ3 H5 => wipe σ3 vs1 = wipe σ2 vs1 ∧ tT K C W0 (fun _ st => .ok true st) σ3 H5 fun b H6 =>
            if b = true then tE K C W0 els σ3 H6 fun y H7 => ∃ acc, H7 D = some (.lst acc) ∧ acc.length < sizeLine ∧ Nx1 (upd H7 D (.lst (acc ++ [y]))) else Nx1 H6)
        else Nx H3) := by
  obtain ⟨G, Y, w, hG, hY⟩ := wk.ex
  obtain ⟨f1, f2, f3⟩ := R1.s.sep.free hD
  have off0 : Off W1 (upd H1 D (.lst [])) D := ⟨f1, f2, f3, [], upd_same⟩
  refine ⟨fun i m H => m = xs.length - i ∧ i ≤ xs.length ∧ Turned2 K C ev2 els tg tg2 vs1 (wipeF fr vs) (.ok ys stE) W1 H1 D xs i H, ⟨xs.length, by simp, Nat.zero_le _, ?_⟩, ?_⟩
  · refine ⟨W1, st1, [], [], Ext.new hD, rfl, ?_, off0, upd_same, .nil, hrun⟩
    exact ⟨R1.s.sep.new hD, R1.s.sz.upd (Nat.zero_le _), fun m zs e => by
      obtain ⟨b, us, h1, h2, h3⟩ := R1.s.str m zs e
      exact ⟨b, us, h1, by rw [upd_ne (ne_of_none h2 hD)]; exact h2, h3.ext R1.s.sep (Ext.new hD)⟩, R1.s.rn⟩
  rintro i m H2 ⟨rfl, hi, W2, st2, acc, us, x2, o2, R2, of2, hd2, D2, run2⟩
  have g2 := hG W2 H2 ((x2.toS o2).toP R1.s.sep)
  by_cases hlt : i < xs.length
  · refine .inr ⟨w.goes i H2 hlt g2, Turned2 K C ev2 els tg tg2 vs1 (wipeF fr vs) (.ok ys stE) W1 H1 D xs (i + 1), fun H' p' => ⟨xs.length - (i + 1), by omega, rfl, hlt, p'⟩, fun x H3 y => ?_⟩
    obtain ⟨p, hp, dp, x3, s3, z3⟩ := hY W2 H2 i x H3 ((x2.toS o2).toP R1.s.sep) R2.sep R2.sz (w.yields i H2 x H3 hlt g2 y)
    have hdrop : xs.drop i = p :: xs.drop (i + 1) := by
      obtain ⟨hl, rfl⟩ := List.getElem?_eq_some_iff.mp hp
      exact List.drop_eq_getElem_cons hl
    rw [hdrop] at run2
    unfold comp2Run at run2
    cases ha : asg tg p (wipeF fr vs) with
    | none => rw [ha] at run2; cases run2
    | some fr1 =>
      rw [ha] at run2
      dsimp only at run2
      have R3 : RelS K C W2 H3 st2 := R2.all x3 s3 z3
      have e3 : Ext W2 H2 W2 H3 := Ext.all x3
      have R3' : Rel K C W2 H3 σ fr st2 := (R1.ext x2 o2 R2).ext e3 rfl R3
      have of3 : Off W2 H3 D := ⟨of2.f, of2.r, of2.o, us, x3 _ _ hd2⟩
      have hd3 : H3 D = some (.lst us) := x3 _ _ hd2
      refine asg_ok ha dp (R3'.slots.wipe vs) fun σ2 sl l2 k2 => ⟨?_, ?_⟩
      · refine wipe_eq (l2.trans (wipe_length ..)) fun j hj => ?_
        rw [k2 j (fun z => hj (hsub j z)), wipe_out hj]
      have Ri := sl.rel R3
      unfold tYes
      simp only [if_true]
      refine ⟨_, fr1, st2, Ri, ?_⟩
      have oo : ∀ {i}, onlyO W2 fr1 i ≠ some D := fun e => of2.o _ (onlyO_le e).1
      cases hc : ev2 fr1 st2 with
      | bad => rw [hc] at run2; cases run2
      | exc c p st3 => rw [hc] at run2; cases run2
      | ok zs st3 =>
        rw [hc] at run2
        dsimp only at run2
        split at run2
        · rename_i hfit
          rw [fits_iff] at hfit
          intro W4 H4 J1 x4 o4 R4 wk4
          cases hb : compRun els (fun _ st => .ok true st) tg2 (wipeF fr1 vs1) zs acc st3 with
          | bad => rw [hb] at run2; cases run2
          | exc c p st5 => rw [hb] at run2; cases run2
          | ok acc5 st5 =>
            rw [hb] at run2
            dsimp only at run2
            have x4b := x4.back
            have x14 : Ext W1 H1 (W4.withO W2.o) H4 := (x2.trans e3).trans x4b
            have of4 : Off W4 H4 D := (of3.withO (o := onlyO W2 fr1) fun i => oo).ext x4 (by rw [o4]; exact fun i => oo)
            have hd4 : H4 D = some (.lst us) := x4.kp D _ hd3 of2.r
            have D4 : Dens K C W4 H4 us acc := (D2.ext R2.sep e3).withO.ext Ri.s.sep x4
            have hl := D4.len
            refine comp_loopB hsub1 hb R4 wk4 of4 hd4 D4 (by omega) fun W5 H5 us5 x5 o5 R5 of5 hd5 D5 => ?_
            have R4b : RelS K C (W4.withO W2.o) H4 st3 := RelS.back R3.sep x4 R4.s
            have x5b : ExtX D (W4.withO W2.o) H4 (W5.withO W2.o) H5 := ⟨x5.kp, x5.th, x5.F, x5.Fn, x5.r, x5.rn⟩
            have of4b : Off (W4.withO W2.o) H4 D := ⟨of4.f, of4.r, of2.o, of4.l⟩
            have R5b : RelS K C (W5.withO W2.o) H5 st5 := by
              have S4 := R4b.sep
              refine ⟨⟨R5.sep.rl, fun i a e => ?_, R5.sep.Fs, R5.sep.Fr, fun a i f e => ?_, fun m i a e1 e2 => ?_, R5.sep.rr, S4.oo⟩, R5.sz, fun m xs e => ?_, R5.rn⟩
              · obtain ⟨ws, h⟩ := S4.ol i a e
                exact ⟨ws, x5b.kp a _ (fun z => of2.o i (by rw [← z]; exact e)) h fun m z => S4.ro m i a z e⟩
              · obtain ⟨ws, h⟩ := S4.ol i a e
                rcases x5b.Fn a f with z | z
                · exact S4.Fo a i z e
                · rw [h] at z
                  cases z
              · obtain ⟨ws, h⟩ := S4.ol i a e2
                rcases x5b.rn m a e1 with z | z
                · exact S4.ro m i a z e2
                · rw [h] at z
                  cases z
              · obtain ⟨a, ws, h1, h2, h3⟩ := R5.str m xs e
                exact ⟨a, ws, h1, h2, h3.withO⟩
            exact ⟨W5.withO W2.o, st5, acc5, us5, x14.transX x5b hD, o2, R5b, ⟨of5.f, of5.r, of2.o, of5.l⟩, hd5, D5.withO, run2⟩
        · cases run2
  · have e : i = xs.length := by omega
    subst e
    rw [List.drop_length] at run2
    unfold comp2Run at run2
    cases run2
    exact .inl ⟨w.stops H2 g2, hq.2 W2 H2 D us _ rfl (hx.trans x2) (o2.trans ho) (R1.ext x2 o2 R2) hd2 D2 of2.f of2.r of2.o (hx.free hD)⟩
/-- the reading of a comprehension of two clauses -/
theorem comp2_t {i i1 : E} {e : E} {t t1 : T} {vs vs1 : List Nat} {σ : St} {H : Hp} {Q : VK} (hsub : ∀ j ∈ slotsT t, j ∈ vs) (hsub1 : ∀ j ∈ slotsT t1, j ∈ vs1) (q : tFr X.K C Wx (evE S (.comp2 vs e t i vs1 t1 i1)) σ H Q) :
    tLc2 (tI X.K C Wx (evI S i)) (gOf X.K t) tYes (tI X.K C W0 (evI S i1)) (gOf X.K t1) (tT X.K C W0 (fun _ st => .ok true st)) (tE X.K C W0 (evE S e)) vs vs1 σ H Q := by
  rw [evE_comp2] at q
  obtain ⟨W, fr, st, R, q⟩ := q
  refine ⟨W, fr, st, R, q.bind.imp (fun xs st1 h1 W1 H1 J x o R1 wk D hD => ?_) fun _ _ _ z => z⟩
  rcases comp2Run_out (ev2 := evI S i1) (els := evE S e) (tg := t) (tg2 := t1) (vs1 := vs1) (fr := wipeF fr vs) (xs := xs) (acc := []) (st := st1) with ⟨ys, stE, hr⟩ | hr
  · rw [hr] at h1
    exact comp_loop2 hsub hsub1 hr x o R1 wk hD h1
  · rw [hr] at h1
    exact h1.elim
theorem pts_yes : PTs X [] (tT X.K C W0 (fun _ st => .ok true st)) := by
  refine ⟨fun pins s σ H Q I q => ?_⟩
  obtain ⟨W, fr, st, R, q⟩ := q
  exact pts_nil.run pins s σ H Q I (q W H (.refl _ _) rfl R)
theorem pe_rcomp2 {elt tg iter tg1 iter1 : Expr} {scope : Scope} {own : List (Str × Nat)} {vs1 : List Nat} {pos : Pos} {t t1 : T} {e i i1 : E} (hc : X.calm = true) (hN : X.N.Nodup) (hi : PI X tg iter (tI X.K C Wx (evI S i))) (ok : BlkOk X.N X.env.scope scope own) (hv : ∀ i ∈ vs1, i ∈ own.map (·.2))
    (hg : ∀ (s : Shared) (H : Hp) (D : Addr) (cl : List (Str × Addr)) (fp : List Addr), PG (X.blk s H scope (compEnvC scope cl D X.env) fp) tg (gOf X.K t))
    (hi1 : ∀ (s : Shared) (H : Hp) (D : Addr) (cl : List (Str × Addr)) (fp : List Addr), PI (X.blk s H scope (compEnvC scope cl D X.env) fp) tg1 iter1 (tI X.K C W0 (evI S i1)))
    (hg1 : ∀ (s : Shared) (H : Hp) (D : Addr) (cl : List (Str × Addr)) (fp : List Addr), PG (X.blk s H scope (compEnvC scope cl D X.env) fp) tg1 (gOf X.K t1))
    (he : ∀ (s : Shared) (H : Hp) (D : Addr) (cl : List (Str × Addr)) (fp : List Addr), PE (X.blk s H scope (compEnvC scope cl D X.env) fp) elt (tE X.K C W0 (evE S e))) (hs : ∀ x, foldedSetIterable iter X.env x = pure x) (hs1 : ∀ env x, foldedSetIterable iter1 env x = pure x) (hsub : ∀ j ∈ slotsT t, j ∈ own.map (·.2)) (hsub1 : ∀ j ∈ slotsT t1, j ∈ vs1) :
    PE X (.ListComp elt [⟨tg, iter, [], 0⟩, ⟨tg1, iter1, [], 0⟩] scope pos) (tFr X.K C Wx (evE S (.comp2 (own.map (·.2)) e t i vs1 t1 i1))) :=
  PE_imp (pe_lc2 hc hN hi ok hv hg (fun _ _ _ _ _ => pts_nil) hi1 hg1 (fun s H D cl fp => pts_yes (C := C) (X := X.blk s H scope (compEnvC scope cl D X.env) fp)) he hs hs1) fun σ H Q _ q => by
    obtain ⟨W, fr, st, R, q⟩ := q
    exact comp2_t hsub hsub1 ⟨W, fr, st, R, q.imp (fun z st' e => ⟨fun W' H' v hp x o R' D _ => e.1 W' H' v hp x o R' D, fun W' H' a us xs hp x o R' e1 D n1 n2 n3 hn _ => e.2 W' H' a us xs hp x o R' e1 D n1 n2 n3 hn⟩) fun _ _ _ z => z⟩
theorem pt_rite {c a b : Expr} {pos : Pos} {e f g : E} (hc : PT X c (tT X.K C Wx (evT S e))) (ha : PT X a (tT X.K C Wx (evT S f))) (hb : PT X b (tT X.K C Wx (evT S g))) : PT X (.IfExp c a b pos) (tT X.K C Wx (evT S (.ite e f g))) := by
  refine ⟨fun pins s σ H Q I q => ?_⟩
  refine PyProof.Rows.isTrue_IfExp (thn (hc.run pins s σ H (fun k H1 => if k = true then tT X.K C Wx (evT S f) σ H1 Q else tT X.K C Wx (evT S g) σ H1 Q) I ?_) fun k s1 ⟨H1, I1, h1⟩ => ?_)
  · obtain ⟨W, fr, st, R, q⟩ := q
    refine ⟨W, fr, st, R, ?_⟩
    unfold evT at q
    simp only [evE] at q
    have q1 := q.bind.bind
    show Post ((evE S e fr st).bind _) _ _
    cases hh : evE S e fr st with
    | bad => rw [hh] at q1; exact q1
    | exc c p st1 => rw [hh] at q1; exact q1
    | ok p st1 =>
      rw [hh] at q1
      obtain ⟨k, hk, h2⟩ := Post.of (Post.bind (show Post ((Out.of (truF (Rm.deref fr st1 p)) st1).bind _) _ _ from q1))
      simp only [Out.bind_ok]
      rw [hk]
      intro W1 H1 x o R1
      have key : ∀ w : E, Post (evE S w fr st1) (fun a st => Post (Out.of (truF (Rm.deref fr st a)) st) (fun b st' => EndT X.K C W H σ fr st' b Q) (EndX X.K C Wx W H σ fr)) (EndX X.K C Wx W H σ fr) → tT X.K C Wx (evT S w) σ H1 Q := fun w h => by
        refine ⟨W1, fr, st1, R1, ?_⟩
        unfold evT
        cases hw : evE S w fr st1 with
        | bad => rw [hw] at h; exact h
        | exc c p st2 => rw [hw] at h; exact EndX.shift h x o
        | ok p st2 =>
          rw [hw] at h
          simp only [Out.bind_ok]
          exact (show Post (Out.of (truF (Rm.deref fr st2 p)) st2) _ _ from h).imp (fun _ _ z => EndT.shift z x o) fun _ _ _ z => EndX.shift z x o
      cases k
      · simp only [Bool.false_eq_true, if_false] at h2 ⊢
        exact key g h2
      · simp only [if_true] at h2 ⊢
        exact key f h2
  · cases k
    · simp only [Bool.false_eq_true, if_false] at h1 ⊢
      exact hb.run pins s1 σ H1 Q I1 h1
    · simp only [if_true] at h1 ⊢
      exact ha.run pins s1 σ H1 Q I1 h1
/-! ### list(range(..)), tuple(range(..)) -/
theorem dens_map {K : PySem.W.Frag} {W : Wd} {H : Hp} {a : Int} : ∀ l : List Nat, Dens K C W H (l.map fun i => V.int (a + (i : Nat))) (l.map fun i => PV.int (a + (i : Nat)))
  | [] => .nil
  | _ :: l => .cons (.int _) (dens_map l)
theorem dens_rg {K : PySem.W.Frag} {W : Wd} {H : Hp} {a b : Int} : Dens K C W H (rgV a b) (rangeF a (b - a).toNat) := dens_map _
theorem evE_lrg1 (t : Bool) (e : E) : evE S (.lrg t e .nil) = fun fr st => (evE S e fr st).bind fun x st => (Out.of (rngF [x]) st).bind fun ys st => .ok (.seq t ys) st := by
  funext fr st
  simp only [evE]
  cases evE S e fr st <;> rfl
theorem rg_int {x y : PV} (h : intF y = none) : rngF [x, y] = none := by
  unfold rngF
  split
  · rename_i e
    cases e
  · rename_i e
    cases e
    cases h
  · rfl
theorem evE_lrg2 (t : Bool) (e f : E) (hf : f ≠ .nil) : evE S (.lrg t e f) = fun fr st => (evE S e fr st).bind fun x st => (evE S f fr st).bind fun y st => (Out.of (rngF [x, y]) st).bind fun ys st => .ok (.seq t ys) st := by
  funext fr st
  have ho : ∀ r st, optO f r st = r.bind fun p st => (Out.of (intF p) st).bind fun i st => .ok (some i) st := fun r st => by
    cases f <;> first | exact absurd rfl hf | rfl
  simp only [evE, ho]
  cases evE S e fr st with
  | ok x st1 =>
    simp only [Out.bind_ok]
    cases evE S f fr st1 with
    | ok y st2 =>
      simp only [Out.bind_ok]
      cases hy : intF y with
      | none =>
        rw [rg_int hy]
        rfl
      | some i =>
        cases y <;> simp only [intF, reduceCtorEq] at hy
        cases hy
        rfl
    | exc c p st1 => rfl
    | bad => rfl
  | exc c p st1 => rfl
  | bad => rfl
theorem rg_one {p : PV} {ys : List PV} (h : rngF [p] = some ys) : ∃ n, p = .int n ∧ RgOk 0 n ∧ ys = rangeF 0 (n - 0).toNat := by
  unfold rngF at h
  split at h
  · rename_i n e
    cases e
    split at h
    · rename_i hok
      cases h
      have := inR_ok hok.1
      have hf := fits_iff.mp hok.2
      rw [sizeLine_eq] at hf
      exact ⟨n, rfl, ⟨by decide, by decide, this.1, this.2, by simpa using hf⟩, by simp⟩
    · cases h
  · rename_i e
    cases e
  · cases h
theorem rg_two {p q : PV} {ys : List PV} (h : rngF [p, q] = some ys) : ∃ a b, p = .int a ∧ q = .int b ∧ RgOk a b ∧ ys = rangeF a (b - a).toNat := by
  unfold rngF at h
  split at h
  · rename_i e
    cases e
  · rename_i a b e
    cases e
    split at h
    · rename_i hok
      cases h
      have h1 := inR_ok hok.1
      have h2 := inR_ok hok.2.1
      have hf := fits_iff.mp hok.2.2
      rw [sizeLine_eq] at hf
      exact ⟨a, b, rfl, rfl, ⟨h1.1, h1.2, h2.1, h2.2, by simpa using hf⟩, rfl⟩
    · cases h
  · cases h
def lrN (t : Bool) : Str := if t = true then "tuple" else "list"
theorem pe_lrg {nm : Str} {t : Bool} {x : Expr} {p pos : Pos} {tr : St → Hp → (Int → Int → Hp → Prop) → Prop} (hn : nm = lrN t) (hc : X.calm = true) (hg : Gl X nm) (hm : X.mg nm = none) (na : starEach [x] X.env = (false, eval x X.env) :: starEach [] X.env) (hr : PRg X x tr) :
    PE X (.Call (.Name nm p) [x] [] pos) (fun σ H Q => tr σ H fun a b H1 => RgOk a b ∧ ∀ q, H1 q = none → Q (.ref q) (upd H1 q (if t = true then .tup (rgV a b) else .lst (rgV a b)))) := by
  subst hn
  cases t with
  | true => exact pe_tupRg hc hg hm hr na
  | false => exact pe_listRg hc hg hm hr na
theorem gv_rg {K : PySem.W.Frag} {W : Wd} {H : Hp} {σ : St} {fr : Frm} {st : Sto} {t : Bool} {a b : Int} {Q : VK} (R : Rel K C W H σ fr st) (h : EndFr K C W H σ fr st (.seq t (rangeF a (b - a).toNat)) Q) : ∀ q, H q = none → Sz (upd H q (if t = true then .tup (rgV a b) else .lst (rgV a b))) → Q (.ref q) (upd H q (if t = true then .tup (rgV a b) else .lst (rgV a b))) := by
  have g := EndFr.gv R h rfl
  cases t with
  | true => exact fun q hq z => g.1 q _ hq dens_rg z
  | false => exact fun q hq z => g q _ hq dens_rg z
theorem pe_rlrg1 {nm : Str} {t : Bool} {a : Expr} {p pos p2 pos2 : Pos} {e : E} (hn : nm = lrN t) (hc : X.calm = true) (hg : Gl X nm) (hm : X.mg nm = none) (hg2 : Gl X "range") (hm2 : X.mg "range" = none) (ns : noStar a = true) (ha : PE X a (tE X.K C Wx (evE S e))) :
    PE X (.Call (.Name nm p) [.Call (.Name "range" p2) [a] [] pos2] [] pos) (tFr X.K C Wx (evE S (.lrg t e .nil))) := by
  refine PE_imp (pe_lrg hn hc hg hm rfl (prg_1 hg2 hm2 ha (star_cons ns))) fun σ H Q _ q => ?_
  rw [evE_lrg1] at q
  obtain ⟨W, fr, st, R, q⟩ := tFr_then q
  refine ⟨W, fr, st, R, q.imp (fun p st1 k W1 H1 v x o R1 D => ?_) fun _ _ _ z => z⟩
  obtain ⟨W4, fr4, st4, px, R4, Dx, hp⟩ := k W1 H1 v x o R1 D
  obtain ⟨ys, hy, g⟩ := Post.of (Post.bind hp)
  obtain ⟨n, rfl, h1, rfl⟩ := rg_one hy
  have dd := Dx.den rfl
  cases dd
  exact ⟨n, rfl, h1, gv_rg R4 g⟩
theorem pe_rlrg2 {nm : Str} {t : Bool} {a b : Expr} {p pos p2 pos2 : Pos} {e f : E} (hf : f ≠ .nil) (hn : nm = lrN t) (hc : X.calm = true) (hg : Gl X nm) (hm : X.mg nm = none) (hg2 : Gl X "range") (hm2 : X.mg "range" = none) (ns : noStar a = true) (ns2 : noStar b = true) (ha : PE X a (tE X.K C Wx (evE S e))) (hb : PE X b (tE X.K C Wx (evE S f))) :
    PE X (.Call (.Name nm p) [.Call (.Name "range" p2) [a, b] [] pos2] [] pos) (tFr X.K C Wx (evE S (.lrg t e f))) := by
  refine PE_imp (pe_lrg hn hc hg hm rfl (prg_2 hg2 hm2 ha hb (star_cons ns) (star_cons ns2) (by rw [star_cons ns2]; rfl))) fun σ H Q _ q => ?_
  rw [evE_lrg2 t e f hf] at q
  obtain ⟨W, fr, st, R, q⟩ := tFr_two q
  refine ⟨W, fr, st, R, q.imp (fun p st1 k W1 H1 v x o R1 D => ?_) fun _ _ _ z => z⟩
  obtain ⟨W2, fr2, st2, R2, k2⟩ := k W1 H1 v x o R1 D
  refine ⟨W2, fr2, st2, R2, k2.imp (fun p2 st3 k3 W3 H3 u x3 o3 R3 D3 => ?_) fun _ _ _ z => z⟩
  obtain ⟨W4, fr4, st4, px, py, R4, Dx, Dy, hp⟩ := k3 W3 H3 u x3 o3 R3 D3
  obtain ⟨ys, hy, g⟩ := Post.of (Post.bind hp)
  obtain ⟨i, j, rfl, rfl, h1, rfl⟩ := rg_two hy
  have dd := Dx.den rfl
  cases dd
  have d2 := Dy.den rfl
  cases d2
  exact ⟨i, j, rfl, rfl, h1, gv_rg R4 g⟩
end
end Rm
set_option Elab.async false
set_option linter.all false
set_option maxHeartbeats 16000000
/-! The look: a term stands for an expression. -/
namespace Rm
open PySem PySem.Spec L2

def glN (c : Ctx) (x : Str) : Bool := isGl c.sc x && plainN x
def notCall : Expr → Bool
  | .Call _ _ _ _ => false
  | _ => true
def Ctx.blk (c : Ctx) (scope : Scope) : Ctx := { c with sc := relS scope c.sc, fn := fun x => scope.names.lookup x == some .cell }
def ownOf (c : Ctx) (vs : List Nat) : List (Str × Nat) := vs.map fun i => (c.N.getD i "", i)
theorem ownOf_snd (c : Ctx) (vs : List Nat) : (ownOf c vs).map (·.2) = vs := by
  unfold ownOf
  rw [List.map_map]
  exact List.map_id' vs
def tyOk (c : Ctx) : Ty → Bool
  | .cls k => decide (k < c.T.cl.length)
  | .own k => decide (k < c.T.oc.length)
  | _ => true
/-- a class's name -/
def tyC (c : Ctx) (t : Ty) : Expr → Bool
  | .Name z _ => decide (z = tyN c.T t) && glN c z && tyOk c t
  | _ => false
def tysC (c : Ctx) : List Ty → List Expr → Bool
  | [], [] => true
  | t :: ts, x :: xs => tyC c t x && tysC c ts xs
  | _, _ => false
def isNil : E → Bool
  | .nil => true
  | _ => false
mutual
def mE : E → Expr → Ctx → Bool
  | .var i, .Name x _, c => decide (c.N[i]? = some x) && isVis c.sc x && plainN x
  | .glb k, .Name x _, c => glN c x && (match c.T.gl[k]? with | some (nm, _) => decide (nm = x) | none => false)
  | .cst p, .Constant k _ _, _ => constOk k p
  | .neg a, .UnaryOp .USub x _, c => mE a x c
  | .not a, .UnaryOp .Not x _, c => mE a x c
  | .bin op a b, .BinOp x o y _, c => decide (opA op = o) && mE a x c && mE b y c
  | .cmp op a b, .Compare x [o] [y] _, c => decide (copA op = o) && noSet y && mE a x c && mE b y c
  | .chn o1 o2 a b d, .Compare x [p1, p2] [y, z] _, c => decide (copA o1 = p1) && decide (copA o2 = p2) && noSet y && noSet z && mE a x c && mE b y c && mE d z c
  | .and l, .BoolOp .And es _, c => mA l es c
  | .or l, .BoolOp .Or es _, c => mA l es c
  | .ite d a b, .IfExp x y z _, c => mE d x c && mE a y c && mE b z c
  | .tup l, .Tuple es _ _, c => mL l es c
  | .lst l, .List es _, c => mL l es c
  | .sub a b, .Subscript x y _, c => noSlice y && mE a x c && mE b y c
  | .slc a lo hi, .Subscript x (.Slice l h none _) _, c => mE a x c && (match l with | none => isNil lo | some y => mE lo y c) && (match h with | none => isNil hi | some y => mE hi y c)
  | .rev a, .Subscript x (.Slice none none (some (.UnaryOp .USub (.Constant (.int 1) _ _) _)) _) _, c => mE a x c
  | .call j l k, .Call (.Name x _) as ks _, c => glN c x && !isM c.T j && (match c.T.fs[j]? with | some (nm, np, kn) => decide (nm = x) && decide (as.length = np) && decide (kwNames ks = kn) | none => false) && as.all noStar && (ks.all fun k => k.arg.isSome) && (!as.isEmpty || ks.isEmpty) && mL l as c && mK k ks c
  | .blt b l, .Call (.Name x _) as [] _, c => decide (bltN b = x) && glN c x && !as.isEmpty && as.all noStar && mL l as c
  | .isi a ts, .Call (.Name x _) [y, z] [] _, c => decide (x = "isinstance") && glN c x && (match z with | .Name z p => (match ts with | [t] => tyC c t (.Name z p) | _ => false) | .Tuple zs _ _ => !ts.isEmpty && decide (ts.length ≤ 9) && tysC c ts zs | _ => false) && noStar y && mE a y c
  | .lrg t a b, .Call (.Name x _) [.Call (.Name r _) as [] _] [] _, c => decide (x = lrN t) && glN c x && decide (r = "range") && glN c r && (match as with | [y] => isNil b && noStar y && mE a y c | [y, z] => noStar y && noStar z && mE a y c && mE b z c | _ => false)
  | .idx a b, .Call (.Attribute o nm ap) [y] [] cp, c => decide (nm = "index") && (ap.endLine == cp.line) && notCall o && noStar y && mE a o c && mE b y c
  | .cnt a b, .Call (.Attribute o nm ap) [y] [] cp, c => decide (nm = "count") && (ap.endLine == cp.line) && notCall o && noStar y && mE a o c && mE b y c
  | .comp vs e t i d, .ListComp x [⟨tg, it, ifs, k⟩] scope _, c => decide (k = 0) && blkC c.N c.sc scope (ownOf c vs) && mT (c.blk scope) tg t && (slotsT t).all (fun j => decide (j ∈ vs)) && noSet it && mI i tg it c && mE e x (c.blk scope) &&
      (match ifs with | [] => isNil d | [y] => mE d y (c.blk scope) | _ => false)
  | .comp2 vs e t i vs1 t1 i1, .ListComp x [⟨tg, it, [], k⟩, ⟨tg1, it1, [], k1⟩] scope _, c => decide (k = 0) && decide (k1 = 0) && blkC c.N c.sc scope (ownOf c vs) && vs1.all (fun j => decide (j ∈ vs)) && mT (c.blk scope) tg t && (slotsT t).all (fun j => decide (j ∈ vs)) &&
      mT (c.blk scope) tg1 t1 && (slotsT t1).all (fun j => decide (j ∈ vs1)) && noSet it && noSet it1 && mI i tg it c && mI i1 tg1 it1 (c.blk scope) && mE e x (c.blk scope)
  | _, _, _ => false
def mA : E → List Expr → Ctx → Bool
  | .cons a l, x :: r, c => mE a x c && (match r with | [] => isNil l | y :: r => mA l (y :: r) c)
  | _, _, _ => false
def mL : E → List Expr → Ctx → Bool
  | .nil, [], _ => true
  | .cons a l, x :: r, c => noStar x && mE a x c && mL l r c
  | _, _, _ => false
def mK : E → List Keyword → Ctx → Bool
  | .nil, [], _ => true
  | .cons a l, ⟨_, x, _⟩ :: r, c => mE a x c && mK l r c
  | _, _, _ => false
def mI : E → Expr → Expr → Ctx → Bool
  | .itS a, _, x, c => mE a x c
  | .itE a, .Tuple _ _ _, .Call (.Name f _) [x] [] _, c => decide (f = "enumerate") && glN c f && noStar x && mE a x c
  | .itZ s a b, .Tuple _ _ _, .Call (.Name f _) [x, y] ks _, c => decide (f = "zip") && glN c f && ZS.kwsOk s ks && noStar x && noStar y && mE a x c && mE b y c
  | .itR l, _, .Call (.Name f _) [x] [] _, c => decide (f = "range") && glN c f && mL l [x] c
  | .itR l, _, .Call (.Name f _) [x, y] [] _, c => decide (f = "range") && glN c f && mL l [x, y] c
  | _, _, _, _ => false
end
end Rm
set_option Elab.async false
set_option linter.all false
set_option maxHeartbeats 16000000
/-! The look is right. -/
namespace Rm
open PySem PySem.Spec L2
section
variable {C : Nat → Addr} {S : Sig} {n : Nat}
theorem Out.bind_eq {α β : Type} {o : Out α} {k : α → Sto → Out β} {y : β} {st : Sto} (h : o.bind k = .ok y st) : ∃ a st1, o = .ok a st1 ∧ k a st1 = .ok y st := by
  cases o with
  | ok a st1 => exact ⟨a, st1, rfl, h⟩
  | exc c p st1 => cases h
  | bad => cases h
theorem mL_len : ∀ (l : E) {es : List Expr} {c : Ctx} {fr : Frm} {st : Sto} {xs : List PV} {st' : Sto}, mL l es c = true → evL S l fr st = .ok xs st' → xs.length = es.length
  | .nil, [], _, _, _, _, _, _, e => by
    simp only [evL, Out.ok.injEq] at e
    rw [← e.1]
    rfl
  | .cons a l, x :: r, c, fr, st, xs, st', h, e => by
    simp only [mL, Bool.and_eq_true] at h
    simp only [evL] at e
    obtain ⟨y, st1, _, e⟩ := Out.bind_eq e
    obtain ⟨ys, st2, e2, e⟩ := Out.bind_eq e
    cases e
    exact congrArg Nat.succ (mL_len l h.2 e2)
theorem mK_len : ∀ (l : E) {es : List Keyword} {c : Ctx} {fr : Frm} {st : Sto} {xs : List PV} {st' : Sto}, mK l es c = true → evL S l fr st = .ok xs st' → xs.length = es.length
  | .nil, [], _, _, _, _, _, _, e => by
    simp only [evL, Out.ok.injEq] at e
    rw [← e.1]
    rfl
  | .cons a l, ⟨_, x, _⟩ :: r, c, fr, st, xs, st', h, e => by
    simp only [mK, Bool.and_eq_true] at h
    simp only [evL] at e
    obtain ⟨y, st1, _, e⟩ := Out.bind_eq e
    obtain ⟨ys, st2, e2, e⟩ := Out.bind_eq e
    cases e
    exact congrArg Nat.succ (mK_len l h.2 e2)
section
variable {c : Ctx} {Wx : WX} {X : Cx}
theorem Fit.hu (F : Fit c C S n Wx X) : X.A.units + 65 < cLine := by
  have := F.rm.un
  omega
theorem Fit.gl (F : Fit c C S n Wx X) {x : Str} (h : glN c x = true) : Gl X x ∧ (x == ("__debug__" : Str)) = false ∧ x ≠ "__name__" := by
  unfold glN at h
  simp only [Bool.and_eq_true] at h
  have := plainN_ok h.2
  exact ⟨isGl_ok F.sc h.1, this.1, this.2.2⟩
theorem Fit.blk (F : Fit c C S n Wx X) (scope : Scope) (s : Shared) (H : Hp) (D : Addr) (cl : List (Str × Addr)) (fp : List Addr) : Fit (c.blk scope) C S n W0 (X.blk s H scope (compEnvC scope cl D X.env) fp) where
  N := F.N
  sc := by
    show relS scope X.env.scope = relS scope c.sc
    rw [F.sc]
  fn := fun x h => h
  calm := F.calm
  nd := F.nd
  tk := fun _ _ x => by
    obtain ⟨_, _, _, _, _, _, _, _, _, _, _, _, _, _, _, _, z⟩ := x
    exact z.elim
  gd := F.gd
  rm := F.rm
  G := F.G
theorem Fit.clsA (F : Fit c C S n Wx X) : ClsAll X.K C S c.T.cl.length c.T.oc.length := ⟨fun k hk => (F.G.cls k c.T.cl[k] (by simp [hk])).2, fun k hk => (F.G.own k c.T.oc[k] (by simp [hk])).2⟩
theorem tyOk_in {t : Ty} (h : tyOk c t = true) : tyIn c.T.cl.length c.T.oc.length t := by
  cases t <;> first | trivial | simpa [tyOk, tyIn] using h
theorem Fit.ty (F : Fit c C S n Wx X) {t : Ty} {z : Str} {p : Pos} (h : tyC c t (.Name z p) = true) : z = tyN c.T t ∧ tyIn c.T.cl.length c.T.oc.length t ∧ PE X (.Name z p) (tC (tyV C t)) := by
  simp only [tyC, Bool.and_eq_true, decide_eq_true_eq] at h
  obtain ⟨⟨rfl, h2⟩, h3⟩ := h
  have g2 := F.gl h2
  have ti := tyOk_in h3
  refine ⟨rfl, ti, pe_ty (C := C) (T := c.T) (t := t) (tp := p) g2.1 g2.2.1 g2.2.2 (fun e => F.G.blt _ (by
    cases t <;> first | exact nomatch (show false = true from e) | (simp only [tyN]; decide))) (fun k e => ?_) fun k e => ?_⟩
  · subst e
    have hk : k < c.T.cl.length := ti
    have := (F.G.cls k c.T.cl[k] (by simp [hk])).1
    simpa [tyN, hk] using this
  · subst e
    have hk : k < c.T.oc.length := ti
    have := (F.G.own k c.T.oc[k] (by simp [hk])).1
    simpa [tyN, hk] using this
theorem Fit.tys (F : Fit c C S n Wx X) : ∀ {ts : List Ty} {xs : List Expr}, tysC c ts xs = true → (∀ t ∈ ts, tyIn c.T.cl.length c.T.oc.length t) ∧ PA X xs (fun _ H Q => Q (ts.map (tyV C)) H)
  | [], [], _ => ⟨(fun _ h => nomatch h), ⟨fun pos pins s σ H Q I q => pa_nil.run pos pins s σ H Q I q⟩⟩
  | t :: ts, x :: xs, h => by
    simp only [tysC, Bool.and_eq_true] at h
    cases x <;> first | exact nomatch (show false = true from h.1) | skip
    obtain ⟨_, h1, h2⟩ := F.ty h.1
    obtain ⟨h3, h4⟩ := F.tys h.2
    refine ⟨fun t' ht => ?_, ?_⟩
    · rcases List.mem_cons.mp ht with rfl | ht
      · exact h1
      · exact h3 t' ht
    · exact ⟨fun pos pins s σ H Q I q => (pa_cons h2 h4 rfl).run pos pins s σ H Q I q⟩
theorem Fit.pt (F : Fit c C S n Wx X) {tg : Expr} {t : T} (h : mT c tg t = true) : PG X tg (gOf X.K t) := pg_mT F.N F.sc F.fn F.calm F.nd h
end
theorem isNil_ok {e : E} (h : isNil e = true) : e = .nil := by
  cases e <;> first | rfl | cases h
theorem mE_nil {a : Expr} {c : Ctx} (h : mE .nil a c = true) : False := by
  cases a <;> cases h
theorem evC_some {e : E} (h : e ≠ .nil) : evC S e = evT S e := by
  funext fr st
  cases e <;> first | exact absurd rfl h | rfl
theorem noSet_f {it : Expr} (h : noSet it = true) (env : Env) : ∀ x, foldedSetIterable it env x = pure x := by
  intro x
  cases it <;> first | rfl | cases h
theorem mL_nil {l : E} {c : Ctx} (h : mL l [] c = true) : l = .nil := by
  cases l <;> first | rfl | cases h
theorem mK_nil {l : E} {c : Ctx} (h : mK l [] c = true) : l = .nil := by
  cases l <;> first | rfl | cases h
mutual
theorem mE_ok : ∀ (e : E) {a : Expr} {c : Ctx} {Wx : WX} {X : Cx}, Fit c C S n Wx X → mE e a c = true → PE X a (tE X.K C Wx (evE S e)) ∧ PT X a (tT X.K C Wx (evT S e))
  | .var i, a, c, Wx, X, F, h => by
    cases a <;> first | exact nomatch (show false = true from h) | skip
    simp only [mE, Bool.and_eq_true, decide_eq_true_eq] at h
    have pl := plainN_ok h.2
    have p := pe_rv (C := C) (Wx := Wx) (S := S) (X := X) (pos := ‹Pos›) (by rw [F.N]; exact h.1.1) (by rw [F.sc]; exact isVis_ok h.1.2) pl.1 pl.2.1
    exact ⟨p, PT_plain p fun _ => rfl⟩
  | .glb k, a, c, Wx, X, F, h => by
    cases a <;> first | exact nomatch (show false = true from h) | skip
    simp only [mE, Bool.and_eq_true] at h
    obtain ⟨h1, h2⟩ := h
    split at h2
    · rename_i nm p e
      have e' := of_decide_eq_true h2
      subst e'
      have g := F.gl h1
      obtain ⟨q1, u, v, q2, q3, q4⟩ := F.G.gls _ _ _ e
      have p := pe_rg (C := C) (Wx := Wx) (S := S) (X := X) (pos := ‹Pos›) g.1 g.2.1 q2 q3 q1 q4
      exact ⟨p, PT_plain p fun _ => rfl⟩
    · cases h2
  | .cst p, a, c, Wx, X, F, h => by
    cases a <;> first | exact nomatch (show false = true from h) | skip
    simp only [mE] at h
    exact ⟨pe_rc h, PT_plain (pe_rc h) fun _ => rfl⟩
  | .neg a, x, c, Wx, X, F, h => by
    cases x <;> first | exact nomatch (show false = true from h) | skip
    rename_i o x pos
    cases o <;> first | exact nomatch (show false = true from h) | skip
    simp only [mE] at h
    have p := pe_rneg (pos := pos) (mE_ok a F h).1
    exact ⟨p, PT_plain p fun _ => rfl⟩
  | .not a, x, c, Wx, X, F, h => by
    cases x <;> first | exact nomatch (show false = true from h) | skip
    rename_i o x pos
    cases o <;> first | exact nomatch (show false = true from h) | skip
    simp only [mE] at h
    exact ⟨pe_rnot (mE_ok a F h).1, pt_rnot (mE_ok a F h).2⟩
  | .bin op a b, x, c, Wx, X, F, h => by
    cases x <;> first | exact nomatch (show false = true from h) | skip
    simp only [mE, Bool.and_eq_true, decide_eq_true_eq] at h
    obtain ⟨⟨rfl, h1⟩, h2⟩ := h
    have p := PE_fresh (pe_rbin (pos := ‹Pos›) (op := op) (mE_ok a F h1).1 (mE_ok b F h2).1)
    exact ⟨p, PT_plain p fun _ => rfl⟩
  | .cmp op a b, x, c, Wx, X, F, h => by
    cases x <;> first | exact nomatch (show false = true from h) | skip
    rename_i x ops ys pos
    rcases ops with _ | ⟨o, _ | ⟨o2, ops⟩⟩ <;> rcases ys with _ | ⟨y, _ | ⟨y2, ys⟩⟩ <;> first | exact nomatch (show false = true from h) | skip
    simp only [mE, Bool.and_eq_true, decide_eq_true_eq] at h
    obtain ⟨⟨⟨rfl, h0⟩, h1⟩, h2⟩ := h
    exact pe_rcmp F.hu h0 (mE_ok a F h1).1 (mE_ok b F h2).1
  | .chn o1 o2 a b d, x, c, Wx, X, F, h => by
    cases x <;> first | exact nomatch (show false = true from h) | skip
    rename_i x ops ys pos
    rcases ops with _ | ⟨o, _ | ⟨p2, _ | ⟨o3, ops⟩⟩⟩ <;> rcases ys with _ | ⟨y, _ | ⟨y2, _ | ⟨y3, ys⟩⟩⟩ <;> first | exact nomatch (show false = true from h) | skip
    simp only [mE, Bool.and_eq_true, decide_eq_true_eq] at h
    obtain ⟨⟨⟨⟨⟨⟨rfl, rfl⟩, h0⟩, h00⟩, h1⟩, h2⟩, h3⟩ := h
    exact pe_rchn F.hu h0 h00 (mE_ok a F h1).1 (mE_ok b F h2).1 (mE_ok d F h3).1
  | .and l, x, c, Wx, X, F, h => by
    cases x <;> first | exact nomatch (show false = true from h) | skip
    rename_i o es pos
    cases o <;> first | exact nomatch (show false = true from h) | skip
    simp only [mE] at h
    have p := mAnd_ok l F h pos
    have e1 : evE S (.and l) = evA S l := by funext fr st; simp only [evE]
    unfold evT
    rw [e1]
    exact ⟨p.1, ⟨fun pins s σ H Q I q => p.2.run _ pins s σ H Q I q⟩⟩
  | .or l, x, c, Wx, X, F, h => by
    cases x <;> first | exact nomatch (show false = true from h) | skip
    rename_i o es pos
    cases o <;> first | exact nomatch (show false = true from h) | skip
    simp only [mE] at h
    have p := mOr_ok l F h pos
    have e1 : evE S (.or l) = evR S l := by funext fr st; simp only [evE]
    unfold evT
    rw [e1]
    exact ⟨p.1, ⟨fun pins s σ H Q I q => p.2.run _ pins s σ H Q I q⟩⟩
  | .ite d a b, x, c, Wx, X, F, h => by
    cases x <;> first | exact nomatch (show false = true from h) | skip
    simp only [mE, Bool.and_eq_true] at h
    obtain ⟨⟨h0, h1⟩, h2⟩ := h
    exact ⟨pe_rite (mE_ok d F h0).2 (mE_ok a F h1).1 (mE_ok b F h2).1, pt_rite (mE_ok d F h0).2 (mE_ok a F h1).2 (mE_ok b F h2).2⟩
  | .tup l, x, c, Wx, X, F, h => by
    cases x <;> first | exact nomatch (show false = true from h) | skip
    simp only [mE] at h
    have p := pe_rtup (k := ‹Nat›) (pos := ‹Pos›) (mL_ok l F h)
    exact ⟨p, PT_plain p fun _ => rfl⟩
  | .lst l, x, c, Wx, X, F, h => by
    cases x <;> first | exact nomatch (show false = true from h) | skip
    simp only [mE] at h
    have p := PE_fresh (pe_rlst (pos := ‹Pos›) (mL_ok l F h))
    exact ⟨p, PT_plain p fun _ => rfl⟩
  | .sub a b, x, c, Wx, X, F, h => by
    cases x <;> first | exact nomatch (show false = true from h) | skip
    rename_i x y pos
    have h : (noSlice y && mE a x c && mE b y c) = true := h
    simp only [Bool.and_eq_true] at h
    obtain ⟨⟨h0, h1⟩, h2⟩ := h
    have p := pe_rsub (pos := pos) h0 (mE_ok a F h1).1 (mE_ok b F h2).1
    exact ⟨p, PT_plain p fun _ => rfl⟩
  | .slc a lo hi, x, c, Wx, X, F, h => by
    cases x <;> first | exact nomatch (show false = true from h) | skip
    rename_i x y pos
    cases y <;> first | exact nomatch (show false = true from h) | skip
    rename_i l hh st p2
    cases st <;> first | exact nomatch (show false = true from h) | skip
    simp only [mE, Bool.and_eq_true] at h
    obtain ⟨⟨h0, h1⟩, h2⟩ := h
    have q1 : PO X l (tO X.K C Wx (evO S lo)) := by
      cases l with
      | none =>
        obtain rfl := isNil_ok h1
        exact po_rnone
      | some y => exact po_rsome (fun z => by subst z; exact mE_nil h1) (mE_ok lo F h1).1
    have q2 : PO X hh (tO X.K C Wx (evO S hi)) := by
      cases hh with
      | none =>
        obtain rfl := isNil_ok h2
        exact po_rnone
      | some y => exact po_rsome (fun z => by subst z; exact mE_nil h2) (mE_ok hi F h2).1
    have p := PE_fresh (pe_rslc (p2 := p2) (pos := pos) (mE_ok a F h0).1 q1 q2)
    exact ⟨p, PT_plain p fun _ => rfl⟩
  | .rev a, x, c, Wx, X, F, h => by
    cases x <;> first | exact nomatch (show false = true from h) | skip
    rename_i x y pos
    cases y <;> first | exact nomatch (show false = true from h) | skip
    rename_i lo hi st p3
    cases lo <;> first | exact nomatch (show false = true from h) | skip
    cases hi <;> first | exact nomatch (show false = true from h) | skip
    cases st <;> first | exact nomatch (show false = true from h) | skip
    rename_i st
    cases st <;> first | exact nomatch (show false = true from h) | skip
    rename_i o st p2
    cases o <;> first | exact nomatch (show false = true from h) | skip
    cases st <;> first | exact nomatch (show false = true from h) | skip
    rename_i k kk p1
    cases k <;> first | exact nomatch (show false = true from h) | skip
    rename_i i
    rcases i with (_ | _ | i) | i <;> first | exact nomatch (show false = true from h) | skip
    have h : mE a x c = true := h
    have p := PE_fresh (pe_rrev (k := kk) (p1 := p1) (p2 := p2) (p3 := p3) (pos := pos) (mE_ok a F h).1)
    exact ⟨p, PT_plain p fun _ => rfl⟩
  | .call j l k, x, c, Wx, X, F, h => by
    cases x <;> first | exact nomatch (show false = true from h) | skip
    rename_i f as ks pos
    cases f <;> first | exact nomatch (show false = true from h) | skip
    rename_i x p
    simp only [mE, Bool.and_eq_true] at h
    obtain ⟨⟨⟨⟨⟨⟨⟨h1, hm⟩, h2⟩, h3⟩, h4⟩, h7⟩, h5⟩, h6⟩ := h
    split at h2
    · rename_i nm np kn e
      simp only [Bool.and_eq_true, decide_eq_true_eq] at h2
      obtain ⟨⟨rfl, e2⟩, e3⟩ := h2
      obtain ⟨f, q1, q2, q3⟩ := F.G.fns _ _ _ _ e (by simpa using hm)
      have g := F.gl h1
      subst e3
      have p := pe_callG (p := p) (pos := pos) (l := l) (k := k) F.rm F.gd F.tk g.1 g.2.1 q1 q2 q3 (mL_ok l F h5) (mK_ok k F h6) h3 h4 e2 (fun _ _ _ _ z => mL_len l h5 z) (fun _ _ _ _ z => mK_len k h6 z) (fun z => by subst z; exact ⟨mL_nil h5, by simpa using h7⟩) (fun z => by subst z; exact mK_nil h6)
      exact ⟨p, PT_plain p fun _ => rfl⟩
    · cases h2
  | .blt b l, x, c, Wx, X, F, h => by
    cases x <;> first | exact nomatch (show false = true from h) | skip
    rename_i f as ks pos
    cases f <;> first | exact nomatch (show false = true from h) | skip
    rename_i x p
    cases ks <;> first | exact nomatch (show false = true from h) | skip
    simp only [mE, Bool.and_eq_true, decide_eq_true_eq] at h
    obtain ⟨⟨⟨⟨rfl, h1⟩, h2⟩, h3⟩, h4⟩ := h
    have g := F.gl h1
    cases as with
    | nil => cases h2
    | cons x r =>
      have p := PE_fresh (pe_rblt (p := p) (pos := pos) F.calm F.hu F.gd g.1 (F.G.blt _ (bltN_in b)) h3 (mL_ok l F h4))
      exact ⟨p, PT_plain p fun _ => rfl⟩
  | .isi a ts, x, c, Wx, X, F, h => by
    cases x <;> first | exact nomatch (show false = true from h) | skip
    rename_i f as ks pos
    cases f <;> first | exact nomatch (show false = true from h) | skip
    rename_i x p
    rcases as with _ | ⟨y, _ | ⟨z, _ | ⟨z2, as⟩⟩⟩ <;> first | exact nomatch (show false = true from h) | skip
    cases ks <;> first | exact nomatch (show false = true from h) | skip
    simp only [mE, Bool.and_eq_true, decide_eq_true_eq] at h
    obtain ⟨⟨⟨⟨rfl, h1⟩, h2⟩, h4⟩, h5⟩ := h
    have g := F.gl h1
    cases z <;> first | exact nomatch (show false = true from h2) | skip
    · rename_i z pz
      rcases ts with _ | ⟨t, _ | ⟨t2, ts⟩⟩ <;> first | exact nomatch (show false = true from h2) | skip
      obtain ⟨rfl, h6, h7⟩ := F.ty h2
      have p := pe_risi (p := p) (pos := pos) F.clsA F.G.ancl F.G.ownl h6 g.1 (F.G.blt _ (by decide)) h4 h7 (mE_ok a F h5).1
      exact ⟨p, PT_plain p fun _ => rfl⟩
    · rename_i zs kk pz
      simp only [Bool.and_eq_true, decide_eq_true_eq, Bool.not_eq_true', List.isEmpty_eq_false_iff] at h2
      obtain ⟨⟨h0, hz⟩, h2⟩ := h2
      obtain ⟨h6, h7⟩ := F.tys h2
      have p := pe_risiT (p := p) (pos := pos) (kk := kk) (tp := pz) F.clsA F.G.ancl F.G.ownl h6 h0 (by rw [sizeLine_eq]; omega) g.1 (F.G.blt _ (by decide)) h4 h7 (mE_ok a F h5).1
      exact ⟨p, PT_plain p fun _ => rfl⟩
  | .lrg t a b, x, c, Wx, X, F, h => by
    cases x <;> first | exact nomatch (show false = true from h) | skip
    rename_i f as ks pos
    cases f <;> first | exact nomatch (show false = true from h) | skip
    rename_i x p
    rcases as with _ | ⟨y, as⟩ <;> first | exact nomatch (show false = true from h) | skip
    cases y <;> first | exact nomatch (show false = true from h) | skip
    rename_i f2 as2 ks2 pos2
    cases f2 <;> first | exact nomatch (show false = true from h) | skip
    cases ks2 <;> first | exact nomatch (show false = true from h) | skip
    cases as <;> first | exact nomatch (show false = true from h) | skip
    cases ks <;> first | exact nomatch (show false = true from h) | skip
    rename_i r p2
    simp only [mE, Bool.and_eq_true, decide_eq_true_eq] at h
    obtain ⟨⟨⟨⟨e1, h1⟩, rfl⟩, h2⟩, h3⟩ := h
    have g := F.gl h1
    have g2 := F.gl h2
    have p : PE X (.Call (.Name x p) [.Call (.Name "range" p2) as2 [] pos2] [] pos) (tE X.K C Wx (evE S (.lrg t a b))) := by
      rcases as2 with _ | ⟨y, _ | ⟨z, _ | ⟨z2, as2⟩⟩⟩ <;> first | exact nomatch (show false = true from h3) | skip
      · simp only [Bool.and_eq_true] at h3
        obtain ⟨⟨h5, h3⟩, h4⟩ := h3
        obtain rfl := isNil_ok h5
        exact PE_fresh (pe_rlrg1 (p := p) (pos := pos) (p2 := p2) (pos2 := pos2) e1 F.calm g.1 (F.G.blt _ (by rw [e1]; cases t <;> decide)) g2.1 (F.G.blt _ (by decide)) h3 (mE_ok a F h4).1)
      · simp only [Bool.and_eq_true] at h3
        obtain ⟨⟨⟨h3, h5⟩, h4⟩, h6⟩ := h3
        exact PE_fresh (pe_rlrg2 (p := p) (pos := pos) (p2 := p2) (pos2 := pos2) (fun z => by subst z; exact mE_nil h6) e1 F.calm g.1 (F.G.blt _ (by rw [e1]; cases t <;> decide)) g2.1 (F.G.blt _ (by decide)) h3 h5 (mE_ok a F h4).1 (mE_ok b F h6).1)
    exact ⟨p, PT_plain p fun _ => rfl⟩
  | .idx a b, x, c, Wx, X, F, h => by
    cases x <;> first | exact nomatch (show false = true from h) | skip
    rename_i f as ks pos
    cases f <;> first | exact nomatch (show false = true from h) | skip
    rename_i o nm ap
    rcases as with _ | ⟨y, _ | ⟨z, as⟩⟩ <;> first | exact nomatch (show false = true from h) | skip
    cases ks <;> first | exact nomatch (show false = true from h) | skip
    simp only [mE, Bool.and_eq_true, decide_eq_true_eq] at h
    obtain ⟨⟨⟨⟨⟨rfl, h1⟩, h2⟩, h3⟩, h4⟩, h5⟩ := h
    have p := pe_ridx (S := S) (C := C) (Wx := Wx) F.hu h3 h1 (base_ok (by cases o <;> first | rfl | cases h2) X.env) (mE_ok a F h4).1 (mE_ok b F h5).1
    exact ⟨p, PT_plain p fun _ => rfl⟩
  | .cnt a b, x, c, Wx, X, F, h => by
    cases x <;> first | exact nomatch (show false = true from h) | skip
    rename_i f as ks pos
    cases f <;> first | exact nomatch (show false = true from h) | skip
    rename_i o nm ap
    rcases as with _ | ⟨y, _ | ⟨z, as⟩⟩ <;> first | exact nomatch (show false = true from h) | skip
    cases ks <;> first | exact nomatch (show false = true from h) | skip
    simp only [mE, Bool.and_eq_true, decide_eq_true_eq] at h
    obtain ⟨⟨⟨⟨⟨rfl, h1⟩, h2⟩, h3⟩, h4⟩, h5⟩ := h
    have p := pe_rcnt (S := S) (C := C) (Wx := Wx) F.hu h3 h1 (base_ok (by cases o <;> first | rfl | cases h2) X.env) (mE_ok a F h4).1 (mE_ok b F h5).1
    exact ⟨p, PT_plain p fun _ => rfl⟩
  | .comp vs e t i d, x, c, Wx, X, F, h => by
    cases x <;> first | exact nomatch (show false = true from h) | skip
    rename_i x gs scope pos
    rcases gs with _ | ⟨⟨tg, it, ifs, k⟩, _ | ⟨g2, gs⟩⟩ <;> first | exact nomatch (show false = true from h) | skip
    simp only [mE, Bool.and_eq_true, decide_eq_true_eq, List.all_eq_true] at h
    obtain ⟨⟨⟨⟨⟨⟨⟨rfl, h1⟩, h2⟩, h3⟩, h4⟩, h5⟩, h6⟩, h7⟩ := h
    have p : PE X (.ListComp x [⟨tg, it, ifs, 0⟩] scope pos) (tE X.K C Wx (evE S (.comp vs e t i d))) := by
      have hown := ownOf_snd c vs
      have q := pe_rcomp (X := X) (C := C) (S := S) (Wx := Wx) (elt := x) (scope := scope) (own := ownOf c vs) (pos := pos) (t := t) (e := e) (i := i) (c := d) (ifs := ifs) F.calm (by rw [F.N]; exact F.nd) (mI_ok i F h5) (blkOk_by (by rw [F.N, F.sc]; exact h1))
        (fun s H D cl fp => (F.blk scope s H D cl fp).pt h2) (fun s H D cl fp => ?_) (fun s H D cl fp => (mE_ok e (F.blk scope s H D cl fp) h6).1) (noSet_f h4 _) (by rw [hown]; exact h3)
      · rw [hown] at q
        exact PE_fresh q
      · rcases ifs with _ | ⟨y, _ | ⟨y2, ifs⟩⟩
        · obtain rfl := isNil_ok h7
          refine ⟨fun pins s σ H Q I hw => pts_nil.run pins s σ H Q I ?_⟩
          obtain ⟨W, fr, st, R, q⟩ := hw
          exact q W H (.refl _ _) rfl R
        · have hn : d ≠ .nil := fun z => by subst z; exact mE_nil h7
          rw [evC_some hn]
          exact pts_one (mE_ok d (F.blk scope s H D cl fp) h7).2
        · cases h7
    exact ⟨p, PT_plain p fun _ => rfl⟩
  | .comp2 vs e t i vs1 t1 i1, x, c, Wx, X, F, h => by
    cases x <;> first | exact nomatch (show false = true from h) | skip
    rename_i x gs scope pos
    rcases gs with _ | ⟨⟨tg, it, ifs, k⟩, _ | ⟨⟨tg1, it1, ifs1, k1⟩, _ | ⟨g2, gs⟩⟩⟩ <;> first | exact nomatch (show false = true from h) | (cases ifs <;> first | exact nomatch (show false = true from h) | (cases ifs1 <;> exact nomatch (show false = true from h))) | skip
    cases ifs <;> first | exact nomatch (show false = true from h) | (cases ifs1 <;> exact nomatch (show false = true from h)) | skip
    cases ifs1 <;> first | exact nomatch (show false = true from h) | skip
    simp only [mE, Bool.and_eq_true, decide_eq_true_eq, List.all_eq_true] at h
    obtain ⟨⟨⟨⟨⟨⟨⟨⟨⟨⟨⟨⟨rfl, rfl⟩, h1⟩, hv⟩, h2⟩, h3⟩, h21⟩, h31⟩, h4⟩, h41⟩, h5⟩, h51⟩, h6⟩ := h
    have p : PE X (.ListComp x [⟨tg, it, [], 0⟩, ⟨tg1, it1, [], 0⟩] scope pos) (tE X.K C Wx (evE S (.comp2 vs e t i vs1 t1 i1))) := by
      have hown := ownOf_snd c vs
      have q := pe_rcomp2 (X := X) (C := C) (S := S) (Wx := Wx) (elt := x) (scope := scope) (own := ownOf c vs) (vs1 := vs1) (pos := pos) (t := t) (t1 := t1) (e := e) (i := i) (i1 := i1) F.calm (by rw [F.N]; exact F.nd) (mI_ok i F h5) (blkOk_by (by rw [F.N, F.sc]; exact h1)) (by rw [hown]; exact hv)
        (fun s H D cl fp => (F.blk scope s H D cl fp).pt h2) (fun s H D cl fp => mI_ok i1 (F.blk scope s H D cl fp) h51) (fun s H D cl fp => (F.blk scope s H D cl fp).pt h21) (fun s H D cl fp => (mE_ok e (F.blk scope s H D cl fp) h6).1) (noSet_f h4 _) (fun env => noSet_f h41 env) (by rw [hown]; exact h3) h31
      rw [hown] at q
      exact PE_fresh q
    exact ⟨p, PT_plain p fun _ => rfl⟩
  | .nil, x, c, Wx, X, F, h => (mE_nil h).elim
  | .cons _ _, x, c, Wx, X, F, h => by cases x <;> cases h
  | .fld _, x, c, Wx, X, F, h => by cases x <;> cases h
  | .itS _, x, c, Wx, X, F, h => by cases x <;> cases h
  | .itR _, x, c, Wx, X, F, h => by cases x <;> cases h
  | .itE _, x, c, Wx, X, F, h => by cases x <;> cases h
  | .itZ _ _ _, x, c, Wx, X, F, h => by cases x <;> cases h
  | .fldI _ _ _, x, c, Wx, X, F, h => by cases x <;> cases h
  | .lnI _ _ _, x, c, Wx, X, F, h => by cases x <;> cases h
  | .eqI _ _ _ _ _, x, c, Wx, X, F, h => by cases x <;> cases h
  | .mcl _ _ _ _, x, c, Wx, X, F, h => by cases x <;> cases h
theorem mAnd_ok : ∀ (l : E) {es : List Expr} {c : Ctx} {Wx : WX} {X : Cx}, Fit c C S n Wx X → mA l es c = true → AndC C Wx S X .And es (evA S l)
  | .cons a l, es, c, Wx, X, F, h => by
    rcases es with _ | ⟨x, _ | ⟨y, r⟩⟩
    · cases h
    · simp only [mA, Bool.and_eq_true] at h
      obtain rfl := isNil_ok h.2
      exact and_one (mE_ok a F h.1)
    · simp only [mA, Bool.and_eq_true] at h
      exact and_cons (mE_ok a F h.1) (mAnd_ok l F h.2)
  | .var _, es, c, Wx, X, F, h => nomatch (show false = true from h)
  | .cst _, es, c, Wx, X, F, h => nomatch (show false = true from h)
  | .glb _, es, c, Wx, X, F, h => nomatch (show false = true from h)
  | .neg _, es, c, Wx, X, F, h => nomatch (show false = true from h)
  | .not _, es, c, Wx, X, F, h => nomatch (show false = true from h)
  | .bin _ _ _, es, c, Wx, X, F, h => nomatch (show false = true from h)
  | .cmp _ _ _, es, c, Wx, X, F, h => nomatch (show false = true from h)
  | .chn _ _ _ _ _, es, c, Wx, X, F, h => nomatch (show false = true from h)
  | .and _, es, c, Wx, X, F, h => nomatch (show false = true from h)
  | .or _, es, c, Wx, X, F, h => nomatch (show false = true from h)
  | .ite _ _ _, es, c, Wx, X, F, h => nomatch (show false = true from h)
  | .tup _, es, c, Wx, X, F, h => nomatch (show false = true from h)
  | .lst _, es, c, Wx, X, F, h => nomatch (show false = true from h)
  | .nil, es, c, Wx, X, F, h => nomatch (show false = true from h)
  | .sub _ _, es, c, Wx, X, F, h => nomatch (show false = true from h)
  | .slc _ _ _, es, c, Wx, X, F, h => nomatch (show false = true from h)
  | .rev _, es, c, Wx, X, F, h => nomatch (show false = true from h)
  | .call _ _ _, es, c, Wx, X, F, h => nomatch (show false = true from h)
  | .blt _ _, es, c, Wx, X, F, h => nomatch (show false = true from h)
  | .isi _ _, es, c, Wx, X, F, h => nomatch (show false = true from h)
  | .fld _, es, c, Wx, X, F, h => nomatch (show false = true from h)
  | .idx _ _, es, c, Wx, X, F, h => nomatch (show false = true from h)
  | .cnt _ _, es, c, Wx, X, F, h => nomatch (show false = true from h)
  | .comp _ _ _ _ _, es, c, Wx, X, F, h => nomatch (show false = true from h)
  | .comp2 _ _ _ _ _ _ _, es, c, Wx, X, F, h => nomatch (show false = true from h)
  | .itS _, es, c, Wx, X, F, h => nomatch (show false = true from h)
  | .itR _, es, c, Wx, X, F, h => nomatch (show false = true from h)
  | .itE _, es, c, Wx, X, F, h => nomatch (show false = true from h)
  | .itZ _ _ _, es, c, Wx, X, F, h => nomatch (show false = true from h)
  | .fldI _ _ _, es, c, Wx, X, F, h => nomatch (show false = true from h)
  | .lnI _ _ _, es, c, Wx, X, F, h => nomatch (show false = true from h)
  | .eqI _ _ _ _ _, es, c, Wx, X, F, h => nomatch (show false = true from h)
  | .mcl _ _ _ _, es, c, Wx, X, F, h => nomatch (show false = true from h)
  | .lrg _ _ _, es, c, Wx, X, F, h => nomatch (show false = true from h)
theorem mOr_ok : ∀ (l : E) {es : List Expr} {c : Ctx} {Wx : WX} {X : Cx}, Fit c C S n Wx X → mA l es c = true → AndC C Wx S X .Or es (evR S l)
  | .cons a l, es, c, Wx, X, F, h => by
    rcases es with _ | ⟨x, _ | ⟨y, r⟩⟩
    · cases h
    · simp only [mA, Bool.and_eq_true] at h
      obtain rfl := isNil_ok h.2
      exact or_one (mE_ok a F h.1)
    · simp only [mA, Bool.and_eq_true] at h
      exact or_cons (mE_ok a F h.1) (mOr_ok l F h.2)
  | .var _, es, c, Wx, X, F, h => nomatch (show false = true from h)
  | .cst _, es, c, Wx, X, F, h => nomatch (show false = true from h)
  | .glb _, es, c, Wx, X, F, h => nomatch (show false = true from h)
  | .neg _, es, c, Wx, X, F, h => nomatch (show false = true from h)
  | .not _, es, c, Wx, X, F, h => nomatch (show false = true from h)
  | .bin _ _ _, es, c, Wx, X, F, h => nomatch (show false = true from h)
  | .cmp _ _ _, es, c, Wx, X, F, h => nomatch (show false = true from h)
  | .chn _ _ _ _ _, es, c, Wx, X, F, h => nomatch (show false = true from h)
  | .and _, es, c, Wx, X, F, h => nomatch (show false = true from h)
  | .or _, es, c, Wx, X, F, h => nomatch (show false = true from h)
  | .ite _ _ _, es, c, Wx, X, F, h => nomatch (show false = true from h)
  | .tup _, es, c, Wx, X, F, h => nomatch (show false = true from h)
  | .lst _, es, c, Wx, X, F, h => nomatch (show false = true from h)
  | .nil, es, c, Wx, X, F, h => nomatch (show false = true from h)
  | .sub _ _, es, c, Wx, X, F, h => nomatch (show false = true from h)
  | .slc _ _ _, es, c, Wx, X, F, h => nomatch (show false = true from h)
  | .rev _, es, c, Wx, X, F, h => nomatch (show false = true from h)
  | .call _ _ _, es, c, Wx, X, F, h => nomatch (show false = true from h)
  | .blt _ _, es, c, Wx, X, F, h => nomatch (show false = true from h)
  | .isi _ _, es, c, Wx, X, F, h => nomatch (show false = true from h)
  | .fld _, es, c, Wx, X, F, h => nomatch (show false = true from h)
  | .idx _ _, es, c, Wx, X, F, h => nomatch (show false = true from h)
  | .cnt _ _, es, c, Wx, X, F, h => nomatch (show false = true from h)
  | .comp _ _ _ _ _, es, c, Wx, X, F, h => nomatch (show false = true from h)
  | .comp2 _ _ _ _ _ _ _, es, c, Wx, X, F, h => nomatch (show false = true from h)
  | .itS _, es, c, Wx, X, F, h => nomatch (show false = true from h)
  | .itR _, es, c, Wx, X, F, h => nomatch (show false = true from h)
  | .itE _, es, c, Wx, X, F, h => nomatch (show false = true from h)
  | .itZ _ _ _, es, c, Wx, X, F, h => nomatch (show false = true from h)
  | .fldI _ _ _, es, c, Wx, X, F, h => nomatch (show false = true from h)
  | .lnI _ _ _, es, c, Wx, X, F, h => nomatch (show false = true from h)
  | .eqI _ _ _ _ _, es, c, Wx, X, F, h => nomatch (show false = true from h)
  | .mcl _ _ _ _, es, c, Wx, X, F, h => nomatch (show false = true from h)
  | .lrg _ _ _, es, c, Wx, X, F, h => nomatch (show false = true from h)
theorem mL_ok : ∀ (l : E) {es : List Expr} {c : Ctx} {Wx : WX} {X : Cx}, Fit c C S n Wx X → mL l es c = true → PA X es (tL X.K C Wx (evL S l))
  | .nil, es, c, Wx, X, F, h => by
    cases es
    · exact pa_rnil
    · cases h
  | .cons a l, es, c, Wx, X, F, h => by
    cases es
    · cases h
    · simp only [mL, Bool.and_eq_true] at h
      exact pa_rcons h.1.1 (mE_ok a F h.1.2).1 (mL_ok l F h.2)
  | .var _, es, c, Wx, X, F, h => nomatch (show false = true from h)
  | .cst _, es, c, Wx, X, F, h => nomatch (show false = true from h)
  | .glb _, es, c, Wx, X, F, h => nomatch (show false = true from h)
  | .neg _, es, c, Wx, X, F, h => nomatch (show false = true from h)
  | .not _, es, c, Wx, X, F, h => nomatch (show false = true from h)
  | .bin _ _ _, es, c, Wx, X, F, h => nomatch (show false = true from h)
  | .cmp _ _ _, es, c, Wx, X, F, h => nomatch (show false = true from h)
  | .chn _ _ _ _ _, es, c, Wx, X, F, h => nomatch (show false = true from h)
  | .and _, es, c, Wx, X, F, h => nomatch (show false = true from h)
  | .or _, es, c, Wx, X, F, h => nomatch (show false = true from h)
  | .ite _ _ _, es, c, Wx, X, F, h => nomatch (show false = true from h)
  | .tup _, es, c, Wx, X, F, h => nomatch (show false = true from h)
  | .lst _, es, c, Wx, X, F, h => nomatch (show false = true from h)
  | .sub _ _, es, c, Wx, X, F, h => nomatch (show false = true from h)
  | .slc _ _ _, es, c, Wx, X, F, h => nomatch (show false = true from h)
  | .rev _, es, c, Wx, X, F, h => nomatch (show false = true from h)
  | .call _ _ _, es, c, Wx, X, F, h => nomatch (show false = true from h)
  | .blt _ _, es, c, Wx, X, F, h => nomatch (show false = true from h)
  | .isi _ _, es, c, Wx, X, F, h => nomatch (show false = true from h)
  | .fld _, es, c, Wx, X, F, h => nomatch (show false = true from h)
  | .idx _ _, es, c, Wx, X, F, h => nomatch (show false = true from h)
  | .cnt _ _, es, c, Wx, X, F, h => nomatch (show false = true from h)
  | .comp _ _ _ _ _, es, c, Wx, X, F, h => nomatch (show false = true from h)
  | .comp2 _ _ _ _ _ _ _, es, c, Wx, X, F, h => nomatch (show false = true from h)
  | .itS _, es, c, Wx, X, F, h => nomatch (show false = true from h)
  | .itR _, es, c, Wx, X, F, h => nomatch (show false = true from h)
  | .itE _, es, c, Wx, X, F, h => nomatch (show false = true from h)
  | .itZ _ _ _, es, c, Wx, X, F, h => nomatch (show false = true from h)
  | .fldI _ _ _, es, c, Wx, X, F, h => nomatch (show false = true from h)
  | .lnI _ _ _, es, c, Wx, X, F, h => nomatch (show false = true from h)
  | .eqI _ _ _ _ _, es, c, Wx, X, F, h => nomatch (show false = true from h)
  | .mcl _ _ _ _, es, c, Wx, X, F, h => nomatch (show false = true from h)
  | .lrg _ _ _, es, c, Wx, X, F, h => nomatch (show false = true from h)
theorem mK_ok : ∀ (l : E) {es : List Keyword} {c : Ctx} {Wx : WX} {X : Cx}, Fit c C S n Wx X → mK l es c = true → PK X es (tL X.K C Wx (evL S l))
  | .nil, es, c, Wx, X, F, h => by
    cases es
    · exact pk_rnil
    · cases h
  | .cons a l, es, c, Wx, X, F, h => by
    cases es
    · cases h
    · rename_i kw r
      obtain ⟨nm, x, kp⟩ := kw
      simp only [mK, Bool.and_eq_true] at h
      exact pk_rcons (mE_ok a F h.1).1 (mK_ok l F h.2)
  | .var _, es, c, Wx, X, F, h => nomatch (show false = true from h)
  | .cst _, es, c, Wx, X, F, h => nomatch (show false = true from h)
  | .glb _, es, c, Wx, X, F, h => nomatch (show false = true from h)
  | .neg _, es, c, Wx, X, F, h => nomatch (show false = true from h)
  | .not _, es, c, Wx, X, F, h => nomatch (show false = true from h)
  | .bin _ _ _, es, c, Wx, X, F, h => nomatch (show false = true from h)
  | .cmp _ _ _, es, c, Wx, X, F, h => nomatch (show false = true from h)
  | .chn _ _ _ _ _, es, c, Wx, X, F, h => nomatch (show false = true from h)
  | .and _, es, c, Wx, X, F, h => nomatch (show false = true from h)
  | .or _, es, c, Wx, X, F, h => nomatch (show false = true from h)
  | .ite _ _ _, es, c, Wx, X, F, h => nomatch (show false = true from h)
  | .tup _, es, c, Wx, X, F, h => nomatch (show false = true from h)
  | .lst _, es, c, Wx, X, F, h => nomatch (show false = true from h)
  | .sub _ _, es, c, Wx, X, F, h => nomatch (show false = true from h)
  | .slc _ _ _, es, c, Wx, X, F, h => nomatch (show false = true from h)
  | .rev _, es, c, Wx, X, F, h => nomatch (show false = true from h)
  | .call _ _ _, es, c, Wx, X, F, h => nomatch (show false = true from h)
  | .blt _ _, es, c, Wx, X, F, h => nomatch (show false = true from h)
  | .isi _ _, es, c, Wx, X, F, h => nomatch (show false = true from h)
  | .fld _, es, c, Wx, X, F, h => nomatch (show false = true from h)
  | .idx _ _, es, c, Wx, X, F, h => nomatch (show false = true from h)
  | .cnt _ _, es, c, Wx, X, F, h => nomatch (show false = true from h)
  | .comp _ _ _ _ _, es, c, Wx, X, F, h => nomatch (show false = true from h)
  | .comp2 _ _ _ _ _ _ _, es, c, Wx, X, F, h => nomatch (show false = true from h)
  | .itS _, es, c, Wx, X, F, h => nomatch (show false = true from h)
  | .itR _, es, c, Wx, X, F, h => nomatch (show false = true from h)
  | .itE _, es, c, Wx, X, F, h => nomatch (show false = true from h)
  | .itZ _ _ _, es, c, Wx, X, F, h => nomatch (show false = true from h)
  | .fldI _ _ _, es, c, Wx, X, F, h => nomatch (show false = true from h)
  | .lnI _ _ _, es, c, Wx, X, F, h => nomatch (show false = true from h)
  | .eqI _ _ _ _ _, es, c, Wx, X, F, h => nomatch (show false = true from h)
  | .mcl _ _ _ _, es, c, Wx, X, F, h => nomatch (show false = true from h)
  | .lrg _ _ _, es, c, Wx, X, F, h => nomatch (show false = true from h)
theorem mI_ok : ∀ (l : E) {tg it : Expr} {c : Ctx} {Wx : WX} {X : Cx}, Fit c C S n Wx X → mI l tg it c = true → PI X tg it (tI X.K C Wx (evI S l))
  | .itS a, tg, it, c, Wx, X, F, h => by
    have h : mE a it c = true := h
    exact pi_rS (mE_ok a F h).1
  | .itE a, tg, it, c, Wx, X, F, h => by
    cases tg <;> first | exact nomatch (show false = true from h) | skip
    cases it <;> first | exact nomatch (show false = true from h) | skip
    rename_i f as ks pos
    cases f <;> first | exact nomatch (show false = true from h) | skip
    rcases as with _ | ⟨y, _ | ⟨z, as⟩⟩ <;> first | exact nomatch (show false = true from h) | skip
    cases ks <;> first | exact nomatch (show false = true from h) | skip
    simp only [mI, Bool.and_eq_true, decide_eq_true_eq] at h
    obtain ⟨⟨⟨rfl, h1⟩, h2⟩, h3⟩ := h
    have g := F.gl h1
    exact pi_rE g.1 (F.G.blt _ (by decide)) h2 (mE_ok a F h3).1
  | .itR l, tg, it, c, Wx, X, F, h => by
    cases it <;> first | exact nomatch (show false = true from h) | skip
    rename_i f as ks pos
    cases f <;> first | exact nomatch (show false = true from h) | skip
    rcases as with _ | ⟨y, _ | ⟨z, _ | ⟨w, as⟩⟩⟩ <;> first | exact nomatch (show false = true from h) | skip
    · cases ks <;> first | exact nomatch (show false = true from h) | skip
      simp only [mI, Bool.and_eq_true, decide_eq_true_eq] at h
      obtain ⟨⟨rfl, h1⟩, h2⟩ := h
      have g := F.gl h1
      have ns : noStar y = true := by
        cases l <;> first | exact nomatch (show false = true from h2) | skip
        simp only [mL, Bool.and_eq_true] at h2
        exact h2.1.1
      exact pi_rR1 g.1 (F.G.blt _ (by decide)) ns (mL_ok l F h2) fun _ _ _ _ e => mL_len l h2 e
    · cases ks <;> first | exact nomatch (show false = true from h) | skip
      simp only [mI, Bool.and_eq_true, decide_eq_true_eq] at h
      obtain ⟨⟨rfl, h1⟩, h2⟩ := h
      have g := F.gl h1
      have ns : noStar y = true ∧ noStar z = true := by
        cases l <;> first | exact nomatch (show false = true from h2) | skip
        rename_i a l
        simp only [mL, Bool.and_eq_true] at h2
        refine ⟨h2.1.1, ?_⟩
        have h3 := h2.2
        cases l <;> first | exact nomatch (show false = true from h3) | skip
        simp only [mL, Bool.and_eq_true] at h3
        exact h3.1.1
      exact pi_rR2 g.1 (F.G.blt _ (by decide)) ns.1 ns.2 (mL_ok l F h2) fun _ _ _ _ e => mL_len l h2 e
  | .nil, tg, it, c, Wx, X, F, h => nomatch (show false = true from h)
  | .cons _ _, tg, it, c, Wx, X, F, h => nomatch (show false = true from h)
  | .var _, tg, it, c, Wx, X, F, h => nomatch (show false = true from h)
  | .cst _, tg, it, c, Wx, X, F, h => nomatch (show false = true from h)
  | .glb _, tg, it, c, Wx, X, F, h => nomatch (show false = true from h)
  | .neg _, tg, it, c, Wx, X, F, h => nomatch (show false = true from h)
  | .not _, tg, it, c, Wx, X, F, h => nomatch (show false = true from h)
  | .bin _ _ _, tg, it, c, Wx, X, F, h => nomatch (show false = true from h)
  | .cmp _ _ _, tg, it, c, Wx, X, F, h => nomatch (show false = true from h)
  | .chn _ _ _ _ _, tg, it, c, Wx, X, F, h => nomatch (show false = true from h)
  | .and _, tg, it, c, Wx, X, F, h => nomatch (show false = true from h)
  | .or _, tg, it, c, Wx, X, F, h => nomatch (show false = true from h)
  | .ite _ _ _, tg, it, c, Wx, X, F, h => nomatch (show false = true from h)
  | .tup _, tg, it, c, Wx, X, F, h => nomatch (show false = true from h)
  | .lst _, tg, it, c, Wx, X, F, h => nomatch (show false = true from h)
  | .sub _ _, tg, it, c, Wx, X, F, h => nomatch (show false = true from h)
  | .slc _ _ _, tg, it, c, Wx, X, F, h => nomatch (show false = true from h)
  | .rev _, tg, it, c, Wx, X, F, h => nomatch (show false = true from h)
  | .call _ _ _, tg, it, c, Wx, X, F, h => nomatch (show false = true from h)
  | .blt _ _, tg, it, c, Wx, X, F, h => nomatch (show false = true from h)
  | .isi _ _, tg, it, c, Wx, X, F, h => nomatch (show false = true from h)
  | .fld _, tg, it, c, Wx, X, F, h => nomatch (show false = true from h)
  | .idx _ _, tg, it, c, Wx, X, F, h => nomatch (show false = true from h)
  | .cnt _ _, tg, it, c, Wx, X, F, h => nomatch (show false = true from h)
  | .comp _ _ _ _ _, tg, it, c, Wx, X, F, h => nomatch (show false = true from h)
  | .comp2 _ _ _ _ _ _ _, tg, it, c, Wx, X, F, h => nomatch (show false = true from h)
  | .itZ s a b, tg, it, c, Wx, X, F, h => by
    cases tg <;> first | exact nomatch (show false = true from h) | skip
    cases it <;> first | exact nomatch (show false = true from h) | skip
    rename_i f as ks pos
    cases f <;> first | exact nomatch (show false = true from h) | skip
    rcases as with _ | ⟨y, _ | ⟨z, _ | ⟨z2, as⟩⟩⟩ <;> first | exact nomatch (show false = true from h) | skip
    simp only [mI, Bool.and_eq_true, decide_eq_true_eq] at h
    obtain ⟨⟨⟨⟨⟨⟨rfl, h1⟩, h2⟩, h3⟩, h4⟩, h5⟩, h6⟩ := h
    have g := F.gl h1
    exact pi_rZ h2 g.1 (F.G.blt _ (by decide)) h3 h4 (mE_ok a F h5).1 (mE_ok b F h6).1
  | .fldI _ _ _, tg, it, c, Wx, X, F, h => nomatch (show false = true from h)
  | .lnI _ _ _, tg, it, c, Wx, X, F, h => nomatch (show false = true from h)
  | .eqI _ _ _ _ _, tg, it, c, Wx, X, F, h => nomatch (show false = true from h)
  | .mcl _ _ _ _, tg, it, c, Wx, X, F, h => nomatch (show false = true from h)
  | .lrg _ _ _, tg, it, c, Wx, X, F, h => nomatch (show false = true from h)
end
end
end Rm
set_option Elab.async false
set_option linter.all false
set_option maxHeartbeats 4000000
/-! Statements of the small language. -/
namespace Rm
open PySem PySem.Spec L2

inductive S where
  | nop | seq (a b : S) | frz (i : Nat) (b : S)
  | set (i : Nat) (e : E) | own (i : Nat) (e : E) | tgt (t : T) (e : E) | par (i j : Nat) (a b : E) | aug (i : Nat) (op : Op) (e : E)
  | app (i : Nat) (e : E) | sto (i : Nat) (k e : E) | xpr (e : E) | doc | ret (e : E) | retN | retF (e : E)
  | ite (c : E) (a b : S) | for (t : T) (it : E) (b : S) | whl (c : E) (b : S) | brk | cnt | rse (c : Nat) (l : E) | try (b : S) (c i j : Nat)
  | ins (i : Nat) (k e : E) | swp (i : Nat) (a b v : E) | par3 (i j l : Nat) (a b d : E)

inductive Res where
  | nx (fr : Frm) (st : Sto) | rt (p : PV) (st : Sto) | bk (fr : Frm) (st : Sto) | ct (fr : Frm) (st : Sto) | ex (c : Nat) (p : PV) (fr : Frm) (st : Sto) | bad
def Out.res {α : Type} (o : Out α) (fr : Frm) (k : α → Sto → Res) : Res := match o with
  | .ok a st => k a st
  | .exc c p st => .ex c p fr st
  | .bad => .bad
@[simp] theorem Out.res_ok {α : Type} (a : α) (st : Sto) (fr : Frm) (k : α → Sto → Res) : (Out.ok a st).res fr k = k a st := rfl
@[simp] theorem Out.res_exc {α : Type} (c : Nat) (p : PV) (st : Sto) (fr : Frm) (k : α → Sto → Res) : (Out.exc c p st : Out α).res fr k = .ex c p fr st := rfl
@[simp] theorem Out.res_bad {α : Type} (fr : Frm) (k : α → Sto → Res) : (Out.bad : Out α).res fr k = .bad := rfl
def Res.then (r : Res) (k : Frm → Sto → Res) : Res := match r with
  | .nx fr st => k fr st
  | r => r
@[simp] theorem Res.then_nx (fr : Frm) (st : Sto) (k : Frm → Sto → Res) : (Res.nx fr st).then k = k fr st := rfl
@[simp] theorem Res.then_rt (p : PV) (st : Sto) (k : Frm → Sto → Res) : (Res.rt p st).then k = .rt p st := rfl
@[simp] theorem Res.then_bk (fr : Frm) (st : Sto) (k : Frm → Sto → Res) : (Res.bk fr st).then k = .bk fr st := rfl
@[simp] theorem Res.then_ct (fr : Frm) (st : Sto) (k : Frm → Sto → Res) : (Res.ct fr st).then k = .ct fr st := rfl
@[simp] theorem Res.then_ex (c : Nat) (p : PV) (fr : Frm) (st : Sto) (k : Frm → Sto → Res) : (Res.ex c p fr st).then k = .ex c p fr st := rfl
@[simp] theorem Res.then_bad (k : Frm → Sto → Res) : Res.bad.then k = .bad := rfl
def Res.ofF (o : Option Frm) (st : Sto) : Res := match o with
  | some fr => .nx fr st
  | none => .bad

/-- a slot takes a value -/
def setF (i : Nat) (p : PV) (fr : Frm) : Option Frm := if keep p = true ∧ i < fr.length then some (fr.set i (some (.val p))) else none
def ownF (i : Nat) (p : PV) (fr : Frm) : Option Frm := match p with
  | .seq false xs => if i < fr.length then some (fr.set i (some (.own xs))) else none
  | _ => none
def frzF (i : Nat) (fr : Frm) : Option Frm := match fr[i]? with
  | some (some (.own xs)) => some (fr.set i (some (.val (.seq false xs))))
  | _ => none
def valF (fr : Frm) (i : Nat) : Option PV := match fr[i]? with
  | some (some (.val p)) => some p
  | _ => none
def augF (op : Op) : PV → PV → Option PV
  | .int i, .int j => match op with
    | .add => some (.int (i + j))
    | .sub => some (.int (i - j))
    | _ => none
  | _, _ => none
/-- a list is written: a slot's own, or the store's -/
def wrF (fr : Frm) (st : Sto) (i : Nat) (f : List PV → Option (List PV)) : Res := match fr[i]? with
  | some (some (.own xs)) => match f xs with
    | some ys => .nx (fr.set i (some (.own ys))) st
    | none => .bad
  | some (some (.val (.ref n))) => match st[n]? with
    | some xs => match f xs with
      | some ys => .nx fr (st.set n ys)
      | none => .bad
    | none => .bad
  | _ => .bad
def lstSlot (fr : Frm) (st : Sto) (i : Nat) : Bool := match fr[i]? with
  | some (some (.own _)) => true
  | some (some (.val (.ref n))) => decide (n < st.length)
  | _ => false
def appF (p : PV) (xs : List PV) : Option (List PV) := if keep p = true ∧ xs.length < sizeLine then some (xs ++ [p]) else none
def stoF (k p : PV) (xs : List PV) : Option (List PV) := match k with
  | .int k => if keep p = true then (ixN xs.length k).map fun j => xs.set j p else none
  | _ => none

def insL (k p : PV) (xs : List PV) : Option (List PV) := match k with
  | .int k => if keep p = true ∧ xs.length < sizeLine ∧ 0 ≤ k ∧ k < 2 ^ 63 then some (xs.take k.toNat ++ [p] ++ xs.drop k.toNat) else none
  | _ => none
def pairF : PV → Option (PV × PV)
  | .seq true [p, q] => some (p, q)
  | _ => none

def forRun (t : T) (body : Frm → Sto → Res) : List PV → Frm → Sto → Res
  | [], fr, st => .nx fr st
  | x :: xs, fr, st => match asg t x fr with
    | none => .bad
    | some fr1 => match body fr1 st with
      | .nx fr2 st2 => forRun t body xs fr2 st2
      | .ct fr2 st2 => forRun t body xs fr2 st2
      | .bk fr2 st2 => .nx fr2 st2
      | r => r
def whlRun (tst : Frm → Sto → Out Bool) (body : Frm → Sto → Res) : Nat → Frm → Sto → Res
  | 0, _, _ => .bad
  | n + 1, fr, st => (tst fr st).res fr fun b st => if b = true then (match body fr st with
      | .nx fr2 st2 => whlRun tst body n fr2 st2
      | .ct fr2 st2 => whlRun tst body n fr2 st2
      | .bk fr2 st2 => .nx fr2 st2
      | r => r) else .nx fr st
/-- a caught error -/
def tryF (G : Sig) (c i j : Nat) (r : Res) : Res := match r with
  | .ex k p fr st => match G.anc[k]? with
    | some l => if l.contains c = true then (if j < fr.length ∧ i ≠ j then .nx ((fr.set j (some (.val (.exc k p)))).set i none) st else .bad) else .ex k p fr st
    | none => .bad
  | r => r

def exS (G : Sig) : S → Frm → Sto → Res
  | .nop, fr, st => .nx fr st
  | .doc, fr, st => .nx fr st
  | .seq a b, fr, st => (exS G a fr st).then (exS G b)
  | .frz i b, fr, st => (Res.ofF (frzF i fr) st).then (exS G b)
  | .set i e, fr, st => (evE G e fr st).res fr fun p st => .ofF (setF i p fr) st
  | .own i e, fr, st => (evE G e fr st).res fr fun p st => .ofF (ownF i p fr) st
  | .tgt t e, fr, st => (evE G e fr st).res fr fun p st => if keep p = true then .ofF (asg t p fr) st else .bad
  | .par i j a b, fr, st => (evE G a fr st).res fr fun p st => (evE G b fr st).res fr fun q st => .ofF ((setF i p fr).bind (setF j q)) st
  | .par3 i j l a b d, fr, st => (evE G a fr st).res fr fun p st => (evE G b fr st).res fr fun q st => (evE G d fr st).res fr fun r st => .ofF ((setF i p fr).bind fun fr => (setF j q fr).bind (setF l r)) st
  | .aug i op e, fr, st => match valF fr i with
    | some x => (evE G e fr st).res fr fun y st => .ofF ((augF op x y).bind fun z => setF i z fr) st
    | none => .bad
  | .app i e, fr, st => if lstSlot fr st i = true then (evE G e fr st).res fr fun p st => wrF fr st i (appF p) else .bad
  | .sto i k e, fr, st => if lstSlot fr st i = true then (evE G e fr st).res fr fun p st => (evE G k fr st).res fr fun k st => wrF fr st i (stoF k p) else .bad
  | .ins i k e, fr, st => if lstSlot fr st i = true then (evE G k fr st).res fr fun k st => (evE G e fr st).res fr fun p st => wrF fr st i (insL k p) else .bad
  | .swp i a b v, fr, st => if lstSlot fr st i = true then (evE G v fr st).res fr fun t st => (match pairF t with
    | some (p, q) => (evE G a fr st).res fr fun j st => (wrF fr st i (stoF j p)).then fun fr st => (evE G b fr st).res fr fun k st => wrF fr st i (stoF k q)
    | none => .bad) else .bad
  | .xpr e, fr, st => (evE G e fr st).res fr fun _ st => .nx fr st
  | .ret e, fr, st => (evE G e fr st).res fr fun p st => if keep p = true then .rt p st else .bad
  | .retN, _, st => .rt .non st
  | .retF e, fr, st => (evE G e fr st).res fr fun p st => match p with
    | .seq false xs => .rt (.ref st.length) (st ++ [xs])
    | _ => .bad
  | .ite c a b, fr, st => (evT G c fr st).res fr fun k st => if k = true then exS G a fr st else exS G b fr st
  | .for t it b, fr, st => (evI G it fr st).res fr fun xs st => forRun t (exS G b) xs fr st
  | .whl c b, fr, st => whlRun (evT G c) (exS G b) G.fuel fr st
  | .brk, fr, st => .bk fr st
  | .cnt, fr, st => .ct fr st
  | .rse c l, fr, st => (evL G l fr st).res fr fun ps st => if fits ps.length = true then .ex c .non fr st else .bad
  | .try b c i j, fr, st => tryF G c i j (exS G b fr st)
end Rm
set_option Elab.async false
set_option linter.all false
set_option maxHeartbeats 8000000
/-! Statements, rule by rule. -/
namespace Rm
open PySem PySem.Spec L2
section
variable (K : PySem.W.Frag) (C : Nat → Addr) (Wx : WX)
def ResP (W : Wd) (H : Hp) (D : Ends) (r : Res) : Prop := match r with
  | .nx fr st => ∀ W' H' σ', ExtS W H W' H' → Rel K C W' H' σ' fr st → D.nx σ' H'
  | .bk fr st => ∀ W' H' σ', ExtS W H W' H' → Rel K C W' H' σ' fr st → D.bk σ' H'
  | .ct fr st => ∀ W' H' σ', ExtS W H W' H' → Rel K C W' H' σ' fr st → D.ct σ' H'
  | .rt p st => ∀ W' H' v, ExtS W H W' H' → RelS K C W' H' st → Den K C W' H' v p → D.rt v H'
  | .ex c p fr st => ∀ W' H' σ' cls d, ExtS W H W' H' → Rel K C W' H' σ' fr st → ExcV C c p cls d → Wx cls d σ' H'
  | .bad => False
def tSt (f : Frm → Sto → Res) : TS := fun D σ H => ∃ W fr st, Rel K C W H σ fr st ∧ ResP K C Wx W H D (f fr st)
end
section
variable {K : PySem.W.Frag} {C : Nat → Addr} {Wx : WX} {W W' W1 : Wd} {H H' H1 : Hp} {D : Ends} {r : Res} {σ : St} {fr : Frm} {st : Sto}
theorem ResP.shift (h : ResP K C Wx W H D r) (x : ExtS W H W1 H1) : ResP K C Wx W1 H1 D r := by
  cases r with
  | nx fr st => exact fun W' H' σ' y R => h W' H' σ' (x.trans y) R
  | bk fr st => exact fun W' H' σ' y R => h W' H' σ' (x.trans y) R
  | ct fr st => exact fun W' H' σ' y R => h W' H' σ' (x.trans y) R
  | rt p st => exact fun W' H' v y R d => h W' H' v (x.trans y) R d
  | ex c p fr st => exact fun W' H' σ' cls d y R e => h W' H' σ' cls d (x.trans y) R e
  | bad => exact h
theorem res_post {α : Type} {o : Out α} {k : α → Sto → Res} (h : ResP K C Wx W H D (o.res fr k)) : Post o (fun a st => ResP K C Wx W H D (k a st)) (EndX K C Wx W H σ fr) := by
  cases o with
  | ok a st => exact h
  | exc c p st => exact fun W' H' cls d x o R e => h W' H' σ cls d (x.toS o) R e
  | bad => exact h
theorem ExtS.less {o : Nat → Option Addr} (h : ∀ i a, o i = some a → ∃ j, W.o j = some a) : ExtS W H (W.withO o) H where
  kp := fun _ _ e _ _ => e
  th := fun _ u e => ⟨u, e⟩
  F := fun _ e => e
  Fn := fun _ e => .inl e
  r := fun _ _ e => e
  rn := fun _ _ e => .inl e
  on := fun i a e => .inl (h i a e)
theorem Rel.setv {v : V} {p : PV} {i : Nat} (R : Rel K C W H σ fr st) (d : Den K C W H v p) (hi : i < fr.length) : Rel K C (W.withO (onlyO W (fr.set i (some (.val p))))) H (σ.set i (some v)) (fr.set i (some (.val p))) st := (R.slots.set d hi).rel R.s
theorem onlyS {fr : Frm} : ExtS W H (W.withO (onlyO W fr)) H := ExtS.less fun i a e => ⟨i, (onlyO_le e).1⟩
/-- name = value -/
theorem end_set {i : Nat} {p : PV} {W1 : Wd} {H1 : Hp} {v : V} (h : ResP K C Wx W H D (Res.ofF (setF i p fr) st)) (x : Ext W H W1 H1) (o : W1.o = W.o) (R : Rel K C W1 H1 σ fr st) (d : DenM K C W1 H1 v p) : D.nx (σ.set i (some v)) H1 := by
  unfold setF at h
  split at h
  · rename_i hk
    exact h _ _ _ ((x.toS o).trans onlyS) (R.setv (d.den hk.1) hk.2)
  · exact h.elim
theorem setO_some {α : Type} {x : α} {l : List (Option α)} {i j : Nat} {q : α} (h : (l.set i (some x))[j]? = some (some q)) : (i = j ∧ q = x ∧ i < l.length) ∨ (i ≠ j ∧ l[j]? = some (some q)) := by
  by_cases e : i = j
  · subst e
    by_cases hi : i < l.length
    · rw [List.getElem?_set_self hi] at h
      cases h
      exact .inl ⟨rfl, rfl, hi⟩
    · rw [List.getElem?_eq_none (by rw [List.length_set]; omega)] at h
      cases h
  · rw [List.getElem?_set_ne e] at h
    exact .inr ⟨e, h⟩
/-- a slot's own list: it stands at a -/
def putO (o : Nat → Option Addr) (i : Nat) (a : Addr) : Nat → Option Addr := fun j => if j = i then some a else o j
theorem putO_same {o : Nat → Option Addr} {i : Nat} {a : Addr} : putO o i a i = some a := by unfold putO; rw [if_pos rfl]
theorem putO_ne {o : Nat → Option Addr} {i j : Nat} {a : Addr} (h : j ≠ i) : putO o i a j = o j := by unfold putO; rw [if_neg h]
/-- name = a new list -/
theorem Rel.own_new {i : Nat} {a : Addr} {us : List V} {xs : List PV} (R : Rel K C W H σ fr st) (hi : i < fr.length) (e : H a = some (.lst us)) (d : Dens K C W H us xs) (n1 : ¬ W.F a) (n2 : ∀ n, W.r n ≠ some a) (n3 : ∀ i, W.o i ≠ some a) :
    Rel K C (W.withO (putO (onlyO W (fr.set i none)) i a)) H (σ.set i (some (.ref a))) (fr.set i (some (.own xs))) st := by
  have hO : ∀ j b, onlyO W (fr.set i none) j = some b → j ≠ i ∧ W.o j = some b := fun j b z => by
    obtain ⟨z1, ys, z2⟩ := onlyO_le z
    refine ⟨fun q => ?_, z1⟩
    subst q
    rw [List.getElem?_set_self hi] at z2
    cases z2
  have hP : ∀ j b, putO (onlyO W (fr.set i none)) i a j = some b → (j = i ∧ b = a) ∨ (j ≠ i ∧ W.o j = some b ∧ onlyO W (fr.set i none) j = some b) := fun j b z => by
    by_cases q : j = i
    · subst q
      rw [putO_same] at z
      cases z
      exact .inl ⟨rfl, rfl⟩
    · rw [putO_ne q] at z
      exact .inr ⟨q, (hO j b z).2, z⟩
  refine ⟨⟨⟨R.s.sep.rl, fun j b z => ?_, R.s.sep.Fs, R.s.sep.Fr, fun b j f z => ?_, fun n j b z1 z2 => ?_, R.s.sep.rr, fun j k b z1 z2 => ?_⟩, R.s.sz, fun n ys z => ?_, R.s.rn⟩, ?_, fun j p z => ?_, fun j ys z => ?_, fun j b z => ?_⟩
  · rcases hP j b z with ⟨_, rfl⟩ | ⟨_, z, _⟩
    · exact ⟨us, e⟩
    · exact R.s.sep.ol j b z
  · rcases hP j b z with ⟨_, rfl⟩ | ⟨_, z, _⟩
    · exact n1 f
    · exact R.s.sep.Fo b j f z
  · rcases hP j b z2 with ⟨_, rfl⟩ | ⟨_, z, _⟩
    · exact n2 n z1
    · exact R.s.sep.ro n j b z1 z
  · rcases hP j b z1 with ⟨q1, q2⟩ | ⟨_, y1, _⟩ <;> rcases hP k b z2 with ⟨q3, q4⟩ | ⟨_, y2, _⟩
    · rw [q1, q3]
    · subst q2
      exact absurd y2 (n3 k)
    · subst q4
      exact absurd y1 (n3 j)
    · exact R.s.sep.oo j k b y1 y2
  · obtain ⟨b, ws, h1, h2, h3⟩ := R.s.str n ys z
    exact ⟨b, ws, h1, h2, h3.withO⟩
  · rw [List.length_set, List.length_set]
    exact R.len
  · rcases setO_some z with ⟨_, z, _⟩ | ⟨q, z⟩
    · cases z
    · obtain ⟨v, h1, h2⟩ := R.slt j p z
      exact ⟨v, by rw [List.getElem?_set_ne q]; exact h1, h2.withO⟩
  · rcases setO_some z with ⟨rfl, z, _⟩ | ⟨q, z⟩
    · cases z
      exact ⟨a, us, List.getElem?_set_self (by rw [← R.len]; exact hi), putO_same, e, d.withO⟩
    · obtain ⟨b, ws, h1, h2, h3, h4⟩ := R.own j ys z
      refine ⟨b, ws, by rw [List.getElem?_set_ne q]; exact h1, ?_, h3, h4.withO⟩
      show putO _ i a j = some b
      rw [putO_ne (Ne.symm q)]
      unfold onlyO
      rw [List.getElem?_set_ne q, z]
      exact h2
  · rcases hP j b z with ⟨rfl, rfl⟩ | ⟨q, _, z⟩
    · exact ⟨xs, List.getElem?_set_self hi⟩
    · obtain ⟨_, ys, z⟩ := onlyO_le z
      rw [List.getElem?_set_ne (Ne.symm q)] at z
      exact ⟨ys, by rw [List.getElem?_set_ne (Ne.symm q)]; exact z⟩
theorem end_own {i : Nat} {p : PV} {W1 : Wd} {H1 : Hp} {a : Addr} {us : List V} {xs : List PV} (h : ResP K C Wx W H D (Res.ofF (ownF i (.seq false xs) fr) st)) (x : Ext W H W1 H1) (o : W1.o = W.o) (R : Rel K C W1 H1 σ fr st) (e : H1 a = some (.lst us)) (d : Dens K C W1 H1 us xs)
    (n1 : ¬ W1.F a) (n2 : ∀ n, W1.r n ≠ some a) (n3 : ∀ i, W1.o i ≠ some a) (hn : H a = none) : D.nx (σ.set i (some (.ref a))) H1 := by
  have h : ResP K C Wx W H D (Res.ofF (if i < fr.length then some (fr.set i (some (.own xs))) else none) st) := h
  split at h
  · rename_i hi
    refine h (W1.withO (putO (onlyO W1 (fr.set i none)) i a)) H1 _ ⟨fun b u e q1 q2 => x.kp b u e q1, x.th, x.F, fun b f => (x.Fn b f).elim .inl fun z => .inr (.inr z), x.r, fun m b f => (x.rn m b f).elim .inl fun z => .inr (.inr z), fun j b z => ?_⟩ (R.own_new hi e d n1 n2 n3)
    have z : putO (onlyO W1 (fr.set i none)) i a j = some b := z
    by_cases q : j = i
    · subst q
      rw [putO_same] at z
      cases z
      exact .inr hn
    · rw [putO_ne q] at z
      exact .inl ⟨j, by rw [← o]; exact (onlyO_le z).1⟩
  · exact h.elim
/-- an own list that nobody changes any more -/
theorem Rel.frz {i : Nat} {xs : List PV} (R : Rel K C W H σ fr st) (e : fr[i]? = some (some (.own xs))) :
    ∃ W', ExtS W H W' H ∧ Rel K C W' H σ (fr.set i (some (.val (.seq false xs)))) st := by
  obtain ⟨a, us, h1, h2, h3, h4⟩ := R.own i xs e
  have hi : i < fr.length := (List.getElem?_eq_some_iff.mp e).1
  have hs : Slots K C (W.withO (onlyO W (fr.set i none))) H (σ.set i none) (fr.set i none) := (R.slots.drop.rel R.s).slots
  have RR := R.slots.drop (i := i) |>.rel R.s
  have hn : ∀ j, (W.withO (onlyO W (fr.set i none))).o j ≠ some a := fun j z => by
    obtain ⟨z1, ys, z2⟩ := onlyO_le (show onlyO W (fr.set i none) j = some a from z)
    have := R.s.sep.oo i j a h2 z1
    subst this
    rw [List.getElem?_set_self hi] at z2
    cases z2
  have RA := RR.also h3 (fun n z => R.s.sep.ro n i a z h2) hn
  have hd : Den K C ((W.withO (onlyO W (fr.set i none))).also a) H (.ref a) (.seq false xs) := .lst (.inr rfl) h3 (h4.withO.also)
  have RB := RA.setv (i := i) hd (by rw [List.length_set]; exact hi)
  rw [List.set_set, List.set_set] at RB
  have es : σ.set i (some (.ref a)) = σ := by
    apply List.ext_getElem?
    intro j
    by_cases q : i = j
    · subst q
      rw [List.getElem?_set_self (by rw [← R.len]; exact hi), h1]
    · rw [List.getElem?_set_ne q]
  rw [es] at RB
  refine ⟨_, ?_, RB⟩
  refine ⟨fun _ _ e _ _ => e, fun _ u e => ⟨u, e⟩, fun _ z => .inl z, fun b z => ?_, fun _ _ z => z, fun _ _ z => .inl z, fun j b z => .inl ⟨j, ?_⟩⟩
  · rcases z with z | rfl
    · exact .inl z
    · exact .inr (.inl ⟨i, h2⟩)
  · exact (onlyO_le (onlyO_le (W := (W.withO (onlyO W (fr.set i none))).also a) z).1).1
end
end Rm
set_option Elab.async false
set_option linter.all false
set_option maxHeartbeats 8000000
/-! Statements, rule by rule: lists written, returns, loops. -/
namespace Rm
open PySem PySem.Spec L2
section
variable {K : PySem.W.Frag} {C : Nat → Addr} {Wx : WX} {W W' W1 : Wd} {H H' H1 : Hp} {D : Ends} {r : Res} {σ : St} {fr : Frm} {st : Sto} {a : Addr} {us us' : List V} {xs ys : List PV}
theorem kp_wr (nF : ¬ W.F a) (ha : H a = some (.lst us)) : ∀ b o, H b = some o → (W.F b ∨ ∀ us, o ≠ .lst us) → (upd H a (.lst us')) b = some o := fun b o e q => by
  by_cases z : b = a
  · subst z
    rw [ha] at e
    cases e
    rcases q with q | q
    · exact absurd q nF
    · exact absurd rfl (q us)
  · rw [upd_ne z]
    exact e
theorem Dens.wr (nF : ¬ W.F a) (ha : H a = some (.lst us)) (d : Dens K C W H us' ys) {ws : List V} : Dens K C W (upd H a (.lst ws)) us' ys := d.mono (fun _ z => z) (fun _ _ z => z) (kp_wr nF ha)
theorem Den.wr (nF : ¬ W.F a) (ha : H a = some (.lst us)) {v : V} {p : PV} (d : Den K C W H v p) {ws : List V} : Den K C W (upd H a (.lst ws)) v p := d.mono (fun _ z => z) (fun _ _ z => z) (kp_wr nF ha)
theorem isl_wr {b : Addr} {ws : List V} (h : ∃ zs, H b = some (.lst zs)) : ∃ zs, (upd H a (.lst ws)) b = some (.lst zs) := by
  by_cases z : b = a
  · subst z
    exact ⟨ws, upd_same⟩
  · rw [upd_ne z]
    exact h
theorem Sep.wr (S : Sep W H) : Sep W (upd H a (.lst us')) where
  rl := fun n b e => isl_wr (S.rl n b e)
  ol := fun n b e => isl_wr (S.ol n b e)
  Fs := fun b e => by
    by_cases z : b = a
    · subst z
      exact ⟨_, upd_same⟩
    · rw [upd_ne z]
      exact S.Fs b e
  Fr := S.Fr
  Fo := S.Fo
  ro := S.ro
  rr := S.rr
  oo := S.oo
/-- a slot's own list is written -/
theorem Rel.wr_own {i : Nat} (R : Rel K C W H σ fr st) (e : fr[i]? = some (some (.own xs))) (ho : W.o i = some a) (d : Dens K C W H us' ys) (hz : us'.length ≤ sizeLine) :
    ExtS W H W (upd H a (.lst us')) ∧ Rel K C W (upd H a (.lst us')) σ (fr.set i (some (.own ys))) st := by
  obtain ⟨us, ha⟩ := R.s.sep.ol i a ho
  have nF : ¬ W.F a := fun z => R.s.sep.Fo a i z ho
  have hi : i < fr.length := (List.getElem?_eq_some_iff.mp e).1
  refine ⟨⟨fun b u q _ n => by rw [upd_ne (fun z => n i (by rw [z]; exact ho))]; exact q, fun b u q => ?_, fun _ z => z, fun _ z => .inl z, fun _ _ z => z, fun _ _ z => .inl z, fun j b z => .inl ⟨j, z⟩⟩, ⟨R.s.sep.wr, R.s.sz.upd hz, fun n zs q => ?_, R.s.rn⟩, by rw [List.length_set]; exact R.len, fun j p q => ?_, fun j zs q => ?_, fun j b q => ?_⟩
  · by_cases z : b = a
    · subst z
      exact ⟨_, upd_same⟩
    · exact ⟨u, by rw [upd_ne z]; exact q⟩
  · obtain ⟨b, ws, h1, h2, h3⟩ := R.s.str n zs q
    exact ⟨b, ws, h1, by rw [upd_ne (fun z => R.s.sep.ro n i b h1 (by rw [z]; exact ho))]; exact h2, h3.wr nF ha⟩
  · rcases setO_some q with ⟨_, z, _⟩ | ⟨_, z⟩
    · cases z
    · obtain ⟨v, h1, h2⟩ := R.slt j p z
      exact ⟨v, h1, h2.wr nF ha⟩
  · rcases setO_some q with ⟨rfl, z, _⟩ | ⟨z1, z⟩
    · cases z
      obtain ⟨b, ws, h1, h2, _⟩ := R.own i xs e
      rw [ho] at h2
      cases h2
      exact ⟨a, us', h1, ho, upd_same, d.wr nF ha⟩
    · obtain ⟨b, ws, h1, h2, h3, h4⟩ := R.own j zs z
      exact ⟨b, ws, h1, h2, by rw [upd_ne (fun q => z1 (R.s.sep.oo i j a ho (by rw [← q]; exact h2)))]; exact h3, h4.wr nF ha⟩
  · by_cases z : i = j
    · subst z
      exact ⟨ys, List.getElem?_set_self hi⟩
    · rw [List.getElem?_set_ne z]
      exact R.on j b q
/-- one of the store's lists is written -/
theorem Rel.wr_ref {m : Nat} (R : Rel K C W H σ fr st) (hr : W.r m = some a) (d : Dens K C W H us' ys) (hz : us'.length ≤ sizeLine) :
    ExtS W H W (upd H a (.lst us')) ∧ Rel K C W (upd H a (.lst us')) σ fr (st.set m ys) := by
  obtain ⟨us, ha⟩ := R.s.sep.rl m a hr
  have nF : ¬ W.F a := fun z => R.s.sep.Fr a m z hr
  refine ⟨⟨fun b u q n _ => by rw [upd_ne (fun z => n m (by rw [z]; exact hr))]; exact q, fun b u q => ?_, fun _ z => z, fun _ z => .inl z, fun _ _ z => z, fun _ _ z => .inl z, fun j b z => .inl ⟨j, z⟩⟩, ⟨R.s.sep.wr, R.s.sz.upd hz, fun n zs q => ?_, fun n b q => by rw [List.length_set]; exact R.s.rn n b q⟩, R.len, fun j p q => ?_, fun j zs q => ?_, R.on⟩
  · by_cases z : b = a
    · subst z
      exact ⟨_, upd_same⟩
    · exact ⟨u, by rw [upd_ne z]; exact q⟩
  · by_cases z : m = n
    · subst z
      have hm := R.s.rn m a hr
      rw [List.getElem?_set_self hm] at q
      cases q
      exact ⟨a, us', hr, upd_same, d.wr nF ha⟩
    · rw [List.getElem?_set_ne z] at q
      obtain ⟨b, ws, h1, h2, h3⟩ := R.s.str n zs q
      exact ⟨b, ws, h1, by rw [upd_ne (fun y => z (R.s.sep.rr m n a hr (by rw [← y]; exact h1)))]; exact h2, h3.wr nF ha⟩
  · obtain ⟨v, h1, h2⟩ := R.slt j p q
    exact ⟨v, h1, h2.wr nF ha⟩
  · obtain ⟨b, ws, h1, h2, h3, h4⟩ := R.own j zs q
    exact ⟨b, ws, h1, h2, by rw [upd_ne (fun y => R.s.sep.ro m j a hr (by rw [← y]; exact h2))]; exact h3, h4.wr nF ha⟩
/-- a list is written: by slot i -/
theorem wr_end {i : Nat} {f : List PV → Option (List PV)} {v : V} (R : Rel K C W H σ fr st) (hv : σ[i]? = some (some v)) (h : ResP K C Wx W H D (wrF fr st i f)) :
    ∃ a us xs ys, v = .ref a ∧ H a = some (.lst us) ∧ Dens K C W H us xs ∧ f xs = some ys ∧ ∀ us', Dens K C W H us' ys → us'.length ≤ sizeLine → D.nx σ (upd H a (.lst us')) := by
  unfold wrF at h
  split at h
  · rename_i xs e
    obtain ⟨a, us, h1, h2, h3, h4⟩ := R.own i xs e
    rw [hv] at h1
    cases h1
    split at h
    · rename_i ys hf
      refine ⟨a, us, xs, ys, rfl, h3, h4, hf, fun us' d hz => ?_⟩
      obtain ⟨x, R'⟩ := R.wr_own e h2 d hz
      exact h _ _ _ x R'
    · exact h.elim
  · rename_i n e
    obtain ⟨w, h1, h2⟩ := R.slt i _ e
    rw [hv] at h1
    cases h1
    cases h2 with
    | ref hr =>
      rename_i a
      split at h
      · rename_i xs hx
        obtain ⟨b, us, g1, g2, g3⟩ := R.s.str n xs hx
        rw [hr] at g1
        cases g1
        split at h
        · rename_i ys hf
          refine ⟨a, us, xs, ys, rfl, g2, g3, hf, fun us' d hz => ?_⟩
          obtain ⟨x, R'⟩ := R.wr_ref hr d hz
          exact h _ _ _ x R'
        · exact h.elim
      · exact h.elim
  · exact h.elim
/-- a new list for the store -/
theorem RelS.grow {a : Addr} {us : List V} {xs : List PV} (R : RelS K C W H st) (e : H a = some (.lst us)) (d : Dens K C W H us xs) (n1 : ¬ W.F a) (n2 : ∀ n, W.r n ≠ some a) (n3 : ∀ i, W.o i ≠ some a) :
    RelS K C { W with r := putO W.r st.length a } H (st ++ [xs]) := by
  have hr : ∀ n b, putO W.r st.length a n = some b → (n = st.length ∧ b = a) ∨ (n < st.length ∧ W.r n = some b) := fun n b z => by
    by_cases q : n = st.length
    · subst q
      rw [putO_same] at z
      cases z
      exact .inl ⟨rfl, rfl⟩
    · rw [putO_ne q] at z
      exact .inr ⟨R.rn n b z, z⟩
  have mono : ∀ {vs : List V} {zs : List PV}, Dens K C W H vs zs → Dens K C { W with r := putO W.r st.length a } H vs zs := fun d => d.mono (W := W) (W' := { W with r := putO W.r st.length a }) (fun _ z => z) (fun n b z => by
    show putO W.r st.length a n = some b
    rw [putO_ne (Nat.ne_of_lt (R.rn n b z))]
    exact z) fun _ _ z _ => z
  refine ⟨⟨fun n b z => ?_, R.sep.ol, R.sep.Fs, fun b n f z => ?_, R.sep.Fo, fun n i b z y => ?_, fun n m b z y => ?_, R.sep.oo⟩, R.sz, fun n zs z => ?_, fun n b z => ?_⟩
  · rcases hr n b z with ⟨_, rfl⟩ | ⟨_, z⟩
    · exact ⟨us, e⟩
    · exact R.sep.rl n b z
  · rcases hr n b z with ⟨_, rfl⟩ | ⟨_, z⟩
    · exact n1 f
    · exact R.sep.Fr b n f z
  · rcases hr n b z with ⟨_, rfl⟩ | ⟨_, z⟩
    · exact n3 i y
    · exact R.sep.ro n i b z y
  · rcases hr n b z with ⟨q1, q2⟩ | ⟨_, z1⟩ <;> rcases hr m b y with ⟨q3, q4⟩ | ⟨_, y1⟩
    · rw [q1, q3]
    · subst q2
      exact absurd y1 (n2 m)
    · subst q4
      exact absurd z1 (n2 n)
    · exact R.sep.rr n m b z1 y1
  · by_cases q : n < st.length
    · rw [List.getElem?_append_left q] at z
      obtain ⟨b, ws, h1, h2, h3⟩ := R.str n zs z
      refine ⟨b, ws, ?_, h2, mono h3⟩
      show putO W.r st.length a n = some b
      rw [putO_ne (Nat.ne_of_lt q)]
      exact h1
    · have hl : n < (st ++ [xs]).length := (List.getElem?_eq_some_iff.mp z).1
      rw [List.length_append, List.length_singleton] at hl
      have hn : n = st.length := by omega
      subst hn
      rw [List.getElem?_append_right (Nat.le_refl _), Nat.sub_self] at z
      cases z
      exact ⟨a, us, putO_same, e, mono d⟩
  · rw [List.length_append, List.length_singleton]
    rcases hr n b z with ⟨rfl, _⟩ | ⟨z, _⟩ <;> omega
theorem end_retF {xs : List PV} (h : ResP K C Wx W H D (.rt (.ref st.length) (st ++ [xs]))) (x : Ext W H W1 H1) (o : W1.o = W.o) (R : Rel K C W1 H1 σ fr st) (e : H1 a = some (.lst us)) (d : Dens K C W1 H1 us xs)
    (n1 : ¬ W1.F a) (n2 : ∀ n, W1.r n ≠ some a) (n3 : ∀ i, W1.o i ≠ some a) (hn : H a = none) : D.rt (.ref a) H1 := by
  refine h { W1 with r := putO W1.r st.length a } H1 _ ⟨fun b u e q1 q2 => x.kp b u e q1, x.th, x.F, fun b f => (x.Fn b f).elim .inl fun z => .inr (.inr z), fun n b z => ?_, fun n b z => ?_, fun j b z => .inl ⟨j, by rw [← o]; exact z⟩⟩ (R.s.grow e d n1 n2 n3) (.ref putO_same)
  · have q := x.r n b z
    show putO W1.r st.length a n = some b
    rw [putO_ne (Nat.ne_of_lt (R.s.rn n b q))]
    exact q
  · have z : putO W1.r st.length a n = some b := z
    by_cases q : n = st.length
    · subst q
      rw [putO_same] at z
      cases z
      exact .inr (.inr hn)
    · rw [putO_ne q] at z
      exact (x.rn n b z).elim .inl fun y => .inr (.inr y)

/-! ### loops -/
/-- what holds ahead of each turn of a for -/
structure TurnF (K : PySem.W.Frag) (C : Nat → Addr) (t : T) (body : Frm → Sto → Res) (fin : Res) (W1 : Wd) (H1 : Hp) (xs : List PV) (i : Nat) (σ : St) (H : Hp) : Prop where
  ex : ∃ W fr st, ExtS W1 H1 W H ∧ Rel K C W H σ fr st ∧ forRun t body (xs.drop i) fr st = fin
theorem for_loop {t : T} {body : Frm → Sto → Res} {J : It} {fr1 : Frm} {st1 : Sto} (R1 : Rel K C W1 H1 σ fr1 st1) (wk : WalkOk K C W1 H1 J xs) (h : ResP K C Wx W1 H1 D (forRun t body xs fr1 st1)) :
    ∃ V : Nat → Nat → St → Hp → Prop, (∃ m, V 0 m σ H1) ∧ ∀ i m σ H, V i m σ H →
      (J.stop i H ∧ D.nx σ H) ∨ (J.go i H ∧ ∃ N : St → Hp → Prop, (∀ σ' H', N σ' H' → ∃ m', m' < m ∧ V (i + 1) m' σ' H') ∧ ∀ x H', J.yld i H x H' → gOf K t x σ H' fun σ2 H2 => tSt K C Wx body { D with nx := N, ct := N, bk := D.nx } σ2 H2) := by
  obtain ⟨G, Y, w, hG, hY⟩ := wk.ex
  obtain ⟨fin, hfin⟩ : ∃ fin, forRun t body xs fr1 st1 = fin := ⟨_, rfl⟩
  rw [hfin] at h
  refine for_it w (TurnF K C t body fin W1 H1 xs) ⟨W1, fr1, st1, ExtS.refl _ _, R1, hfin⟩ ?_ ?_ ?_
  · rintro i σ2 H2 _ ⟨W2, fr2, st2, x2, _⟩
    exact hG W2 H2 (x2.toP R1.s.sep)
  · rintro i x σ2 H2 H3 hi ⟨W2, fr2, st2, x2, R2, run2⟩ y
    obtain ⟨p, hp, dp, x3, s3, z3⟩ := hY W2 H2 i x H3 (x2.toP R1.s.sep) R2.s.sep R2.s.sz y
    have hdrop : xs.drop i = p :: xs.drop (i + 1) := by
      obtain ⟨hl, rfl⟩ := List.getElem?_eq_some_iff.mp hp
      exact List.drop_eq_getElem_cons hl
    rw [hdrop] at run2
    unfold forRun at run2
    cases ha : asg t p fr2 with
    | none =>
      rw [ha] at run2
      rw [← run2] at h
      exact h.elim
    | some fr3 =>
      rw [ha] at run2
      dsimp only at run2
      have R3 : RelS K C W2 H3 st2 := R2.s.all x3 s3 z3
      have e3 : Ext W2 H2 W2 H3 := Ext.all x3
      have R3' : Rel K C W2 H3 σ2 fr2 st2 := R2.ext e3 rfl R3
      refine asg_ok ha dp R3'.slots fun σ3 sl l3 k3 => ?_
      have Ri := sl.rel R3
      have xx : ExtS W1 H1 (W2.withO (onlyO W2 fr3)) H3 := (x2.trans (e3.toS rfl)).trans onlyS
      refine ⟨_, fr3, st2, Ri, ?_⟩
      cases hb : body fr3 st2 with
      | nx fr4 st4 =>
        rw [hb] at run2
        exact fun W' H' σ' x' R' => ⟨W', fr4, st4, xx.trans x', R', run2⟩
      | ct fr4 st4 =>
        rw [hb] at run2
        exact fun W' H' σ' x' R' => ⟨W', fr4, st4, xx.trans x', R', run2⟩
      | bk fr4 st4 =>
        rw [hb] at run2
        rw [← run2] at h
        exact fun W' H' σ' x' R' => h W' H' σ' (xx.trans x') R'
      | rt p4 st4 =>
        rw [hb] at run2
        rw [← run2] at h
        exact fun W' H' v x' R' d => h W' H' v (xx.trans x') R' d
      | ex c4 p4 fr4 st4 =>
        rw [hb] at run2
        rw [← run2] at h
        exact fun W' H' σ' cls d x' R' e => h W' H' σ' cls d (xx.trans x') R' e
      | bad =>
        rw [hb] at run2
        rw [← run2] at h
        exact h.elim
  · rintro σ2 H2 ⟨W2, fr2, st2, x2, R2, run2⟩
    rw [List.drop_length] at run2
    unfold forRun at run2
    rw [← run2] at h
    exact h W2 H2 σ2 x2 R2
/-- .. of a while -/
structure TurnW (K : PySem.W.Frag) (C : Nat → Addr) (tst : Frm → Sto → Out Bool) (body : Frm → Sto → Res) (fin : Res) (W1 : Wd) (H1 : Hp) (m : Nat) (σ : St) (H : Hp) : Prop where
  ex : ∃ W fr st, ExtS W1 H1 W H ∧ Rel K C W H σ fr st ∧ whlRun tst body m fr st = fin
theorem whl_loop {tst : Frm → Sto → Out Bool} {body : Frm → Sto → Res} {n : Nat} (h : tSt K C Wx (whlRun tst body n) D σ H) :
    tWhile (tT K C Wx tst) (tSt K C Wx body) D σ H := by
  obtain ⟨W1, fr1, st1, R1, h⟩ := h
  obtain ⟨fin, hfin⟩ : ∃ fin, whlRun tst body n fr1 st1 = fin := ⟨_, rfl⟩
  rw [hfin] at h
  refine ⟨TurnW K C tst body fin W1 H, ⟨n, W1, fr1, st1, ExtS.refl _ _, R1, hfin⟩, ?_⟩
  rintro m σ2 H2 ⟨W2, fr2, st2, x2, R2, run2⟩
  cases m with
  | zero =>
    unfold whlRun at run2
    rw [← run2] at h
    exact h.elim
  | succ m =>
    unfold whlRun at run2
    rw [← run2] at h
    refine ⟨W2, fr2, st2, R2, ?_⟩
    have h := ResP.shift h x2
    cases hb : tst fr2 st2 with
    | bad =>
      rw [hb] at h
      exact h.elim
    | exc c p st3 =>
      rw [hb] at h
      exact fun W' H' cls d x o R e => h W' H' σ2 cls d (x.toS o) R e
    | ok b st3 =>
      rw [hb] at h run2
      intro W3 H3 x3 o3 R3
      have h := ResP.shift h (x3.toS o3)
      have xx : ExtS W1 H W3 H3 := x2.trans (x3.toS o3)
      cases b with
      | false =>
        simp only [Bool.false_eq_true, if_false, Out.res_ok] at h ⊢
        exact h W3 H3 σ2 (ExtS.refl _ _) R3
      | true =>
        simp only [if_true, Out.res_ok] at h run2 ⊢
        refine ⟨fun σ' H' => TurnW K C tst body fin W1 H m σ' H', fun σ' H' z => ⟨m, Nat.lt_succ_self m, z⟩, W3, fr2, st3, R3, ?_⟩
        cases hc : body fr2 st3 with
        | nx fr4 st4 =>
          rw [hc] at run2
          exact fun W' H' σ' x' R' => ⟨W', fr4, st4, xx.trans x', R', run2⟩
        | ct fr4 st4 =>
          rw [hc] at run2
          exact fun W' H' σ' x' R' => ⟨W', fr4, st4, xx.trans x', R', run2⟩
        | bk fr4 st4 =>
          rw [hc] at h
          exact fun W' H' σ' x' R' => h W' H' σ' x' R'
        | rt p4 st4 =>
          rw [hc] at h
          exact fun W' H' v x' R' d => h W' H' v x' R' d
        | ex c4 p4 fr4 st4 =>
          rw [hc] at h
          exact fun W' H' σ' cls d x' R' e => h W' H' σ' cls d x' R' e
        | bad =>
          rw [hc] at h
          exact h.elim
end
end Rm
set_option Elab.async false
set_option linter.all false
set_option maxHeartbeats 8000000
/-! A caught error, kept. -/
namespace Rm
open PySem PySem.Spec L2
section
variable {X : Cx} {pins : List (Addr × Obj)} {σ : St} {H : Hp} {s : Shared}
/-- what is known of an error's object -/
def excP (a : Addr) (cls : Value) (d : Option Addr) : Heap → Prop := fun h => ∃ oe vs, h.get? a = some oe ∧ oe.cls = cls ∧ oe.dict = d ∧ oe.data = .fields vs
theorem Inv.tag {a : Addr} {φ : Heap → Prop} (I : Inv X pins σ H s) (na : H a = none) (h0 : X.s_0.heap.get? a = none) (nL : a ≠ X.env.locals) (nc : ∀ x c, X.env.cells.lookup x = some c → c ≠ a) (np : ∀ p ∈ X.pn ++ pins, p.1 ≠ a)
    (ok : ObjOk X.prog X.w (upd H a (.ext φ)) s.heap a (.ext φ)) : Inv X pins σ (upd H a (.ext φ)) s := by
  have ne : ∀ {b : Addr} {o : HO}, H b = some o → (upd H a (.ext φ)) b = some o := fun e => by
    rw [upd_ne (ne_of_none e na)]
    exact e
  refine ⟨I.ok, I.os, I.bare, ⟨I.base.keep, I.base.slot, fun b o e n hx => ?_, I.base.there, fun b xs e => ne (I.base.tups b xs e), fun b o u e => ne (I.base.frzs b o u e), fun b ps e => ?_⟩, I.loc, I.cell, ?_, fun x c e => ?_, fun p hp => ?_, fun b u e => ?_, I.len⟩
  · rw [upd_ne (fun z => by subst z; rw [h0] at e; cases e)]
    exact I.base.free b o e n hx
  · obtain ⟨more, q⟩ := I.base.tbls b ps e
    exact ⟨more, ne q⟩
  · rw [upd_ne (Ne.symm nL)]
    exact I.free
  · rw [upd_ne (nc x c e)]
    exact I.freeC x c e
  · obtain ⟨h1, h2, h3⟩ := I.pin p hp
    exact ⟨h1, by rw [upd_ne (np p hp)]; exact h2, h3⟩
  · by_cases hb : b = a
    · subst hb
      rw [upd_same] at e
      cases e
      exact ok
    · rw [upd_ne hb] at e
      exact (I.hok b u e).stay (fun _ _ _ q => q) (fun _ q => ne q) fun _ _ q => ne q
end
/-- what «except x as n: m = n» wishes of an error of the body -/
def wCaught (K : PySem.W.Frag) (c : Value) (i j : Nat) (Wout : WX) (D : Ends) : WX := fun cls d σ H =>
  ∃ b, PySem.W.exmOne K cls c = some b ∧ (b = true → ∀ a, H a = none → D.nx ((σ.set j (some (.ref a))).set i none) (upd H a (.ext (excP a cls d)))) ∧ (b = false → Wout cls d σ H)
section
variable {X : Cx} {x n m : Str} {c : Value} {i j : Nat} {body : List Stmt} {q1 q2 q3 q4 pos pos' : Pos} {tb : WX → TS} {Wout : WX}
theorem ps_caught (hs : X.stack = X.env :: X.outer) (hf : X.env.frame = some X.env.locals) (hex : X.ex = []) (nd : X.N.Nodup) (hi : X.N[i]? = some n) (hj : X.N[j]? = some m) (hij : i ≠ j) (hn : X.env.scope.names.lookup n = some .local) (hm : X.env.scope.names.lookup m = some .local)
    (n1 : (n == ("__debug__" : Str)) = false) (n2 : (n == ("__classdict__" : Str)) = false) (hc : Names X x c) (tk : Takes X Wout)
    (hb : ∀ (W : WX) (pn : List (Addr × Obj)) (xe : Value → Shared → Prop), Takes (X.tr pn xe) W → PassesOwn (model X.prog X.w) X.A X.env xe → PSs (X.tr pn xe) body (tb W)) :
    PS X (.Try body [.ExceptHandler (some (.Name x q1)) (some n) [.Assign [.Name m q2] (.Name n q3) q4] pos'] [] [] pos) (fun D σ H => tb (wCaught X.K c i j Wout D) D σ H) := by
  refine ⟨fun pins s σ H D I h => ?_⟩
  have okX := I.ok
  have frm : X.A.frames = some (X.env :: X.outer) := by rw [okX.frames, hs]
  have kn : X.env.kindOf n = some .local := hn
  refine wpAny_Try_except (wpAny_mono ((hb (wCaught X.K c i j Wout D) (X.pn ++ pins) (fun e t1 => wpAny (model X.prog X.w) X.A (noteFrame e X.env) (fun _ t2 => wpAny (model X.prog X.w) X.A (setFlight e none)
    (fun _ t3 => wpAny (model X.prog X.w) X.A (handleBy e X.env [.ExceptHandler (some (.Name x q1)) (some n) [.Assign [.Name m q2] (.Name n q3) q4] pos']) (SP X pins D) X.xe t3) X.xe t2) X.xe t1)
    (fun u t xx => ?_) PassesOwn.looking).run [] s σ H D (I.toTry _) h) (fun f t hsp => ?_) fun _ _ z => z)
  · obtain ⟨a, B, sI, pl, σ1, H1, cls, d, rfl, Jt, nb, up, sky, na, os, ag, b, hb1, yes, no⟩ := xx
    have J : Inv X pins σ1 H1 sI := Jt.ofTry okX
    have skyE : Sky B (X.env :: X.outer) a (Zc cls d) X.env.locals t.heap := by rw [← hs]; exact sky
    have hBa : B.get? a = none := by
      rcases sky with z | z | z
      · exact z.2.1
      · exact z.2.1
      · exact z.2.1
    show wpAny (model X.prog X.w) X.A (noteFrame (.ref a) X.env) _ _ _
    refine Sky.land Zc.steady frm hf skyE fun ha fla upa => ?_
    obtain ⟨oa, va, ga, za, da⟩ := fla.there
    have nofr : a ∉ frs (X.env :: X.outer) := fun hm => by
      obtain ⟨_, o', e', nf⟩ := fla.2.2.1.mem hm
      rw [ga] at e'
      cases e'
      exact nf _ da
    have nL : a ≠ X.env.locals := fun z => nofr (List.mem_filterMap.mpr ⟨X.env, List.mem_cons_self, by rw [hf, z]⟩)
    have nF : a ∉ X.fs := fun hm => by
      obtain ⟨e, he, q⟩ := List.mem_filterMap.mp hm
      exact nofr (List.mem_filterMap.mpr ⟨e, List.mem_cons_of_mem _ he, q⟩)
    have gI : sI.heap.get? a = none := by
      cases q : sI.heap.get? a with
      | none => rfl
      | some o =>
        have := nb a o q (by rw [hs]; exact nofr)
        rw [hBa] at this
        cases this
    have g0 : X.s_0.heap.get? a = none := by
      cases q : X.s_0.heap.get? a with
      | none => rfl
      | some o =>
        obtain ⟨o', e⟩ := J.base.there a o q (by rw [hex]; simp)
        rw [gI] at e
        cases e
    have npin : ∀ p ∈ X.pn ++ pins, p.1 ≠ a := fun p hp z => by
      have := (J.pin p hp).1
      rw [z, gI] at this
      cases this
    have Ja : Inv X pins σ1 H1 { t with heap := ha } := J.landed nb fla.1 (up.trans upa) os ag
    have Sa := Ja.suite ga da na nL nF
    refine wpAny_handleBy_cons (codeAny_handlers_test ?_) (by intro q; cases q)
    have lkT : PySem.W.Looks (model X.prog X.w) ha (typeOf (.ref a)) cls := fun A Q E s k q => wpAny_typeOf_ref (k _ _ ga) (by rw [za.1]; exact q)
    have lkM := PySem.W.exm_one (M := model X.prog X.w) Ja.kIn lkT hb1
    have look : ∀ {Q : Value → Shared → Prop} {E : Value → Shared → Prop}, Q c { t with heap := ha } → wpAny (model X.prog X.w) (X.A.mark (some (.ref a))) (eval (.Name x q1) X.env) Q E { t with heap := ha } := fun {Q E} q => by
      obtain ⟨hg, hd, hmg | ⟨hmg, hv, hnn⟩⟩ := hc
      · exact ld_glob (X := X.suite a ((a, oa) :: (X.pn ++ pins))) Sa hg hmg q hd
      · exact ld_blt (X := X.suite a ((a, oa) :: (X.pn ++ pins))) Sa hg hmg hv q hnn hd
    refine look (lkM.here ?_)
    cases b with
    | true =>
      refine codeAny_handlers_suite_as (HandSPX.lands_againZ fla fun hz flz upz => ?_)
      obtain ⟨oz, vz, gz, zz, dz⟩ := flz.there
      have Jz : Inv X pins σ1 H1 { t with heap := hz } := J.landed nb flz.1 ((up.trans upa).trans upz) os ag
      have Sz := Jz.suite gz dz na nL nF
      refine store_ok (X := X.suite a ((a, oz) :: (X.pn ++ pins))) (v := .ref a) Sz nd hi (.inl hn) rfl (fun t5 S5 => ?_) (.inr hn)
      have put : PSs (X.suite a ((a, oz) :: (X.pn ++ pins))) [.Assign [.Name m q2] (.Name n q3) q4] (tAsg (tVar i) (gName j)) :=
        pss_one (ps_set (X := X.suite a ((a, oz) :: (X.pn ++ pins))) nd hj (.inl hm) (pe_var hi (.inl hn) n1 n2) rfl (.inr hm))
      have hil : i < σ1.length := by
        rw [J.len]
        exact (List.getElem?_eq_some_iff.mp hi).1
      refine wpAny_mono (put.run [] t5 _ H1 { nx := fun σ' H' => σ' = (σ1.set i (some (.ref a))).set j (some (.ref a)) ∧ H' = H1, rt := fun _ _ => False } S5 ⟨.ref a, by rw [List.getElem?_set_self hil], rfl, rfl⟩) (fun f t6 hsp => ?_) fun _ _ z => False.elim z
      cases f with
      | next =>
        obtain ⟨σ6, H6, S6, rfl, rfl⟩ := hsp
        show wpAny (model X.prog X.w) X.A (do bindName X.env n .none; unbindBehindTheSuite X.env n pos') _ _ _
        refine gone_ok (X := X.suite a ((a, oz) :: (X.pn ++ pins))) S6 nd hi kn fun t7 S7 => ?_
        have g7 : t7.heap.get? a = some oz := (S7.pin (a, oz) (by simp)).1
        have J7 : Inv X pins _ H6 t7 := S7.unsuite okX
        refine ⟨_, _, Rm.Inv.tag J7 na g0 nL (fun y k e z => ?_) npin ?_, by rw [List.set_comm _ _ hij, List.set_set]; exact yes rfl a na⟩
        · obtain ⟨v, ck⟩ := J7.cell y k e
          rw [z] at ck
          obtain ⟨o', e', q'⟩ := ck
          rw [g7] at e'
          cases e'
          rw [dz] at q'
          cases q'
        · exact ⟨⟨oz, vz, g7, zz.1, zz.2, dz⟩, ⟨oz, g7⟩, fun h1 h2 ⟨o, vs, e1, r⟩ k => ⟨o, vs, k o e1, r⟩⟩
      | brk =>
        obtain ⟨_, _, _, z⟩ := hsp
        exact z.elim
      | cont =>
        obtain ⟨_, _, _, z⟩ := hsp
        exact z.elim
      | ret u =>
        obtain ⟨_, _, _, _, _, z⟩ := hsp
        exact z.elim
    | false =>
      show wpAny _ X.A (handleBy (.ref a) X.env []) _ _ _
      refine wpAny_handleBy_nil ?_
      obtain ⟨_, _, _, oe, ve, T, oT, ts, he, hz, hd, h1, hr⟩ := id fla
      unfold PySem.passOn
      refine wpAny_bind (wpAny_field he hd h1 ?_)
      rw [if_neg (show ¬ ((Value.ref T == Value.none) = true) from by simp)]
      have go : wpAny (model X.prog X.w) X.A (setFlight (.ref a) X.env.frame) (fun _ t4 => wpAny (model X.prog X.w) X.A (throw (.ref a) : Sem Flow) (SP X pins D) X.xe t4) X.xe { t with heap := ha } := by
        rw [hf]
        refine HandSPX.setFlight_upZ fla fun hq fq uq => wpAny_throw (tk _ _ ⟨a, B, sI, pins, σ1, H1, cls, d, rfl, J, nb, (up.trans upa).trans uq, .inr (.inr ?_), na, os, ag, no rfl⟩)
        rw [hs]
        exact fq
      first
        | exact wpAny_bind (wpAny_pure (wpAny_bind go))
        | exact wpAny_bind go
  · cases f with
    | next =>
      obtain ⟨τ, G, J, q⟩ := hsp
      exact wpAny_execs_nil ⟨τ, G, J.ofTry okX, q⟩
    | brk =>
      obtain ⟨τ, G, J, q⟩ := hsp
      exact ⟨τ, G, J.ofTry okX, q⟩
    | cont =>
      obtain ⟨τ, G, J, q⟩ := hsp
      exact ⟨τ, G, J.ofTry okX, q⟩
    | ret u =>
      obtain ⟨v, τ, G, J, r, q⟩ := hsp
      exact ⟨v, τ, G, J.ofTry okX, r, q⟩
end
end Rm
set_option Elab.async false
set_option linter.all false
set_option maxHeartbeats 8000000
/-! Which statement of the small language stands for which of the text's. -/
namespace Rm
open PySem PySem.Spec L2
theorem fm_lt {α β : Type} {f : α → Option β} : ∀ {l : List α} {x : α}, x ∈ l → f x = none → (l.filterMap f).length < l.length
  | y :: l, x, h, e => by
    rcases List.mem_cons.mp h with rfl | h
    · rw [List.filterMap_cons_none e]
      exact Nat.lt_succ_of_le (List.length_filterMap_le _ _)
    · have := fm_lt h e
      cases q : f y with
      | none =>
        rw [List.filterMap_cons_none q]
        exact Nat.lt_succ_of_lt this
      | some z =>
        rw [List.filterMap_cons_some q]
        exact Nat.succ_lt_succ this
theorem sw_fold {ts vs : List Expr} {k k2 : Nat} {p p2 : Pos} {env : Env} (h : vs.all (foldedForSure 8) = true) : swappedStores [.Tuple ts k p] (.Tuple vs k2 p2) env = pure none := by
  unfold swappedStores
  dsimp only
  simp only [h, if_true]
  repeat' split
  all_goals rfl
theorem sw_cell {ts vs : List Expr} {k k2 : Nat} {p p2 : Pos} {env : Env} {x : Expr} (hx : x ∈ ts) (h : (match x with | .Name id _ => env.kindOf id == some .local | _ => false) = false) : swappedStores [.Tuple ts k p] (.Tuple vs k2 p2) env = pure none := by
  unfold swappedStores
  dsimp only
  split
  · rfl
  · split
    · rfl
    · rw [if_pos]
      rw [Bool.or_eq_true]
      refine .inl ?_
      refine bne_iff_ne.mpr (Nat.ne_of_lt (fm_lt hx ?_))
      cases x <;> first | rfl | skip
      dsimp only at h ⊢
      rw [h]
      rfl
theorem sw_two {x y : Str} {px py : Pos} {a b : Expr} {k k2 : Nat} {p p2 : Pos} {env : Env} (hk : env.scope.kind = .function) (hx : env.scope.names.lookup x = some .local) (hy : env.scope.names.lookup y = some .local) (hl : (py.line == px.line) = true) (hxy : x ≠ y)
    (ha : noStar a = true) (hb : noStar b = true) (hf : ([a, b].all (foldedForSure 8)) = false) (hc : ([a, b].all (constantsAlone 8)) = false) : swappedStores [.Tuple [.Name x px, .Name y py] k p] (.Tuple [a, b] k2 p2) env = pure (some [x, y]) := by
  have bk : env.blockKind = .function := by unfold Env.blockKind; rw [hk]; rfl
  have kx : env.kindOf x = some .local := hx
  have ky : env.kindOf y = some .local := hy
  have st : ∀ e : Expr, noStar e = true → (match e with | .Starred .. => true | _ => false) = false := fun e h => by
    cases e <;> first | rfl | exact nomatch (show false = true from h)
  have hst : ([a, b].any fun | .Starred .. => true | _ => false) = false := by
    rw [List.any_cons, List.any_cons, List.any_nil, st a ha, st b hb]
    rfl
  have e1 : ((.local : NameKind) == .local) = true := rfl
  unfold swappedStores
  simp only [bk, hst, hf, hc, kx, ky, List.length_cons, List.length_nil, List.filterMap_cons, List.filterMap_nil, List.head?_cons, Option.map_some, Option.getD_some, Expr.pos, hl, beq_self_eq_true, Bool.and_self, Bool.and_true, Bool.true_and, if_true]
  have hyx : ¬ y = x := Ne.symm hxy
  simp [List.eraseDups_cons, hxy, hyx]
  intro h
  rcases h with h | h
  · cases (st a ha).symm.trans h
  · cases (st b hb).symm.trans h
theorem sw_three {x y z : Str} {px py pz : Pos} {a b d : Expr} {k k2 : Nat} {p p2 : Pos} {env : Env} (hk : env.scope.kind = .function) (hx : env.scope.names.lookup x = some .local) (hy : env.scope.names.lookup y = some .local) (hz : env.scope.names.lookup z = some .local) (hl : (py.line == px.line) = true) (hl2 : (pz.line == px.line) = true) (hxy : x ≠ y) (hxz : x ≠ z) (hyz : y ≠ z)
    (ha : noStar a = true) (hb : noStar b = true) (hd : noStar d = true) (hf : ([a, b, d].all (foldedForSure 8)) = false) (hc : ([a, b, d].all (constantsAlone 8)) = false) : swappedStores [.Tuple [.Name x px, .Name y py, .Name z pz] k p] (.Tuple [a, b, d] k2 p2) env = pure (some [x, y, z]) := by
  have bk : env.blockKind = .function := by unfold Env.blockKind; rw [hk]; rfl
  have kx : env.kindOf x = some .local := hx
  have ky : env.kindOf y = some .local := hy
  have kz : env.kindOf z = some .local := hz
  have st : ∀ e : Expr, noStar e = true → (match e with | .Starred .. => true | _ => false) = false := fun e h => by
    cases e <;> first | rfl | exact nomatch (show false = true from h)
  have hst : ([a, b, d].any fun | .Starred .. => true | _ => false) = false := by
    rw [List.any_cons, List.any_cons, List.any_cons, List.any_nil, st a ha, st b hb, st d hd]
    rfl
  have e1 : ((.local : NameKind) == .local) = true := rfl
  unfold swappedStores
  simp only [bk, hst, hf, hc, kx, ky, kz, List.length_cons, List.length_nil, List.filterMap_cons, List.filterMap_nil, List.head?_cons, Option.map_some, Option.getD_some, Expr.pos, hl, hl2, beq_self_eq_true, Bool.and_self, Bool.and_true, Bool.true_and, if_true]
  have hyx : ¬ y = x := Ne.symm hxy
  have hzx : ¬ z = x := Ne.symm hxz
  have hzy : ¬ z = y := Ne.symm hyz
  simp [List.eraseDups_cons, hxy, hyx, hxz, hzx, hyz, hzy]
  intro h
  rcases h with h | h | h
  · cases (st a ha).symm.trans h
  · cases (st b hb).symm.trans h
  · cases (st d hd).symm.trans h

def isFresh : E → Bool
  | .bin _ _ _ | .lst _ | .slc _ _ _ | .rev _ | .blt _ _ | .comp _ _ _ _ _ | .comp2 _ _ _ _ _ _ _ | .lrg _ _ _ => true
  | _ => false
/-- a name that may be stored -/
def stoN (c : Ctx) (x : Str) : Bool := (match c.sc.names.lookup x with | some .local => true | _ => false) || (c.fn x && (match c.sc.names.lookup x with | some .cell => true | _ => false))
def locN (c : Ctx) (x : Str) : Bool := match c.sc.names.lookup x with
  | some .local => true
  | _ => false
def notLc : Expr → Bool
  | .ListComp _ _ _ _ | .SetComp _ _ _ _ | .DictComp _ _ _ _ _ => false
  | _ => true
/-- no stores from the right -/
def plainT (c : Ctx) : Expr → Expr → Bool
  | .Tuple ts _ _, .Tuple vs _ _ => vs.all (foldedForSure 8) || ts.any fun | .Name id _ => !(c.sc.names.lookup id == some .local) | _ => true
  | .Tuple _ _ _, .List _ _ => true
  | .Tuple _ _ _, _ => true
  | _, _ => false
/-- except .. as n: m = n2 -/
def tryOf (hs : List ExceptHandler) (oe fb : List Stmt) : Option (Str × Str × Str × Str) := match hs, oe, fb with
  | [.ExceptHandler (some (.Name cn _)) (some n) [.Assign [.Name m _] (.Name n2 _) _] _], [], [] => some (cn, n, m, n2)
  | _, _, _ => none
theorem tryOf_ok {hs : List ExceptHandler} {oe fb : List Stmt} {cn n m n2 : Str} (h : tryOf hs oe fb = some (cn, n, m, n2)) :
    ∃ q1 q2 q3 q4 p, hs = [.ExceptHandler (some (.Name cn q1)) (some n) [.Assign [.Name m q2] (.Name n2 q3) q4] p] ∧ oe = [] ∧ fb = [] := by
  unfold tryOf at h
  split at h
  · simp only [Option.some.injEq, Prod.mk.injEq] at h
    obtain ⟨rfl, rfl, rfl, rfl⟩ := h
    exact ⟨_, _, _, _, _, rfl, rfl, rfl⟩
  · cases h
/-- x, y = u, v -/
def parOf (tgs : List Expr) (v : Expr) : Option (Str × Pos × Str × Pos × Expr × Expr) := match tgs, v with
  | [.Tuple [.Name x px, .Name y py] _ _], .Tuple [u, v] _ _ => some (x, px, y, py, u, v)
  | _, _ => none
theorem parOf_ok {tgs : List Expr} {w u v : Expr} {x y : Str} {px py : Pos} (h : parOf tgs w = some (x, px, y, py, u, v)) : ∃ k1 p1 k2 p2, tgs = [.Tuple [.Name x px, .Name y py] k1 p1] ∧ w = .Tuple [u, v] k2 p2 := by
  unfold parOf at h
  split at h
  · simp only [Option.some.injEq, Prod.mk.injEq] at h
    obtain ⟨rfl, rfl, rfl, rfl, rfl, rfl⟩ := h
    exact ⟨_, _, _, _, rfl, rfl⟩
  · cases h
/-- x, y, z = u, v, w -/
def parOf3 (tgs : List Expr) (v : Expr) : Option (Str × Pos × Str × Pos × Str × Pos × Expr × Expr × Expr) := match tgs, v with
  | [.Tuple [.Name x px, .Name y py, .Name z pz] _ _], .Tuple [u, v, w] _ _ => some (x, px, y, py, z, pz, u, v, w)
  | _, _ => none
theorem parOf3_ok {tgs : List Expr} {q u v w : Expr} {x y z : Str} {px py pz : Pos} (h : parOf3 tgs q = some (x, px, y, py, z, pz, u, v, w)) : ∃ k1 p1 k2 p2, tgs = [.Tuple [.Name x px, .Name y py, .Name z pz] k1 p1] ∧ q = .Tuple [u, v, w] k2 p2 := by
  unfold parOf3 at h
  split at h
  · simp only [Option.some.injEq, Prod.mk.injEq] at h
    obtain ⟨rfl, rfl, rfl, rfl, rfl, rfl, rfl, rfl, rfl⟩ := h
    exact ⟨_, _, _, _, rfl, rfl⟩
  · cases h
mutual
def m1 : S → Stmt → Ctx → Bool
  | .set i e, .Assign [.Name x _] v _, c => decide (c.N[i]? = some x) && stoN c x && mE e v c
  | .own i e, .Assign [.Name x _] v _, c => decide (c.N[i]? = some x) && stoN c x && isFresh e && mE e v c
  | .tgt t e, .Assign [tg] v _, c => plainT c tg v && mT c tg t && mE e v c
  | .par i j a b, .Assign tgs w _, c => match parOf tgs w with
    | some (x, px, y, py, u, v) => decide (c.N[i]? = some x) && decide (c.N[j]? = some y) && decide (i ≠ j) && locN c x && locN c y && (py.line == px.line) && decide (x ≠ y) && noStar u && noStar v &&
      !([u, v].all (foldedForSure 8)) && !([u, v].all (constantsAlone 8)) && mE a u c && mE b v c
    | none => false
  | .par3 i j l a b d, .Assign tgs w _, c => match parOf3 tgs w with
    | some (x, px, y, py, z, pz, u, v, w) => decide (c.N[i]? = some x) && decide (c.N[j]? = some y) && decide (c.N[l]? = some z) && decide (i ≠ j) && decide (i ≠ l) && decide (j ≠ l) && locN c x && locN c y && locN c z && (py.line == px.line) && (pz.line == px.line) && decide (x ≠ y) && decide (x ≠ z) && decide (y ≠ z) && noStar u && noStar v && noStar w &&
      !([u, v, w].all (foldedForSure 8)) && !([u, v, w].all (constantsAlone 8)) && mE a u c && mE b v c && mE d w c
    | none => false
  | .aug i op e, .AugAssign (.Name x _) o v _, c => decide (opA op = o) && (decide (op = .add) || decide (op = .sub)) && decide (c.N[i]? = some x) && stoN c x && mE e v c
  | .app i e, .Expr (.Call (.Attribute (.Name x _) nm ap) [v] [] cp) _, c => decide (nm = "append") && decide (c.N[i]? = some x) && isVis c.sc x && plainN x && (ap.endLine == cp.line) && noStar v && mE e v c
  | .sto i k e, .Assign [.Subscript (.Name x _) kx _] v _, c => decide (c.N[i]? = some x) && isVis c.sc x && plainN x && noSlice kx && mE k kx c && mE e v c
  | .ins i k e, .Expr (.Call (.Attribute (.Name x _) nm ap) [y, v] [] cp) _, c => decide (nm = "insert") && decide (c.N[i]? = some x) && isVis c.sc x && plainN x && (ap.endLine == cp.line) && noStar y && noStar v && mE k y c && mE e v c
  | .swp i a b v, .Assign [.Tuple [.Subscript (.Name x _) ax _, .Subscript (.Name y _) bx _] _ _] w _, c => decide (c.N[i]? = some x) && decide (y = x) && isVis c.sc x && plainN x && noSlice ax && noSlice bx && mE a ax c && mE b bx c && mE v w c
  | .xpr e, .Expr v _, c => notLc v && mE e v c
  | .doc, .Expr (.Constant (.str _) _ _) _, _ => true
  | .doc, .Pass _, _ => true
  | .ret e, .Return (some v) _, c => mE e v c
  | .retN, .Return none _, _ => true
  | .retF e, .Return (some v) _, c => isFresh e && mE e v c
  | .ite d a b, .If v x y _, c => mE d v c && mB a x c && mB b y c
  | .for t i b, .For tg it x [] _, c => mT c tg t && noSet it && mI i tg it c && mB b x c
  | .whl d b, .While v x [] _, c => mE d v c && mB b x c
  | .brk, .Break _, _ => true
  | .cnt, .Continue _, _ => true
  | .rse k l, .Raise (some (.Call (.Name x _) as [] _)) none _, c => glN c x && decide (c.T.cl[k]? = some x) && decide (k ∈ c.T.rs) && !as.isEmpty && as.all noStar && mL l as c
  | .try b k i j, .Try x hs oe fb _, c => mB b x c && match tryOf hs oe fb with
    | some (cn, n, m, n2) => decide (n2 = n) && decide (c.N[i]? = some n) && decide (c.N[j]? = some m) && decide (i ≠ j) && locN c n && locN c m && plainN n && glN c cn && decide (c.T.cl[k]? = some cn)
    | none => false
  | _, _, _ => false
def mB : S → List Stmt → Ctx → Bool
  | .nop, [], _ => true
  | .seq a b, x :: r, c => m1 a x c && mB b r c
  | .frz _ b, xs, c => mB b xs c
  | _, _, _ => false
end

section
variable {C : Nat → Addr} {G : Sig} {n : Nat} {c : Ctx} {Wx : WX} {X : Cx}
structure FitS (c : Ctx) (C : Nat → Addr) (G : Sig) (n : Nat) (Wx : WX) (X : Cx) : Prop extends Fit c C G n Wx X where
  po : PassesOwn (model X.prog X.w) X.A X.env X.xe
  hs : X.stack = X.env :: X.outer
  hf : X.env.frame = some X.env.locals
  hex : X.ex = []
  kd : X.env.scope.kind = .function
theorem FitS.tr {W : WX} {pn : List (Addr × Obj)} {xe : Value → Shared → Prop} (F : FitS c C G n Wx X) (tk : Takes (X.tr pn xe) W) (po : PassesOwn (model X.prog X.w) X.A X.env xe) : FitS c C G n W (X.tr pn xe) where
  N := F.N
  sc := F.sc
  fn := F.fn
  calm := F.calm
  nd := F.nd
  tk := tk
  gd := F.gd
  rm := F.rm
  G := F.G
  po := po
  hs := F.hs
  hf := F.hf
  hex := F.hex
  kd := F.kd
theorem stoN_ok (F : Fit c C G n Wx X) {x : Str} (h : stoN c x = true) : Loc X.env.scope x ∧ (X.fn x = true ∨ X.env.scope.names.lookup x = some .local) := by
  unfold stoN at h
  rw [F.sc]
  rcases (Bool.or_eq_true _ _).mp h with h | h
  · split at h
    · exact ⟨.inl (by assumption), .inr (by assumption)⟩
    · cases h
  · rw [Bool.and_eq_true] at h
    obtain ⟨h1, h2⟩ := h
    split at h2
    · exact ⟨.inr (by assumption), .inl (F.fn x h1)⟩
    · cases h2
theorem locN_ok (F : Fit c C G n Wx X) {x : Str} (h : locN c x = true) : X.env.scope.names.lookup x = some .local := by
  unfold locN at h
  rw [F.sc]
  split at h
  · assumption
  · cases h
/-- fresh results -/
theorem mE_fr {e : E} {a : Expr} (F : Fit c C G n Wx X) (hfr : isFresh e = true) (h : mE e a c = true) : PE X a (tFr X.K C Wx (evE G e)) := by
  cases e <;> first | exact nomatch (show false = true from hfr) | skip
  case bin op e1 e2 =>
    cases a <;> first | exact nomatch (show false = true from h) | skip
    simp only [mE, Bool.and_eq_true, decide_eq_true_eq] at h
    obtain ⟨⟨rfl, h1⟩, h2⟩ := h
    exact pe_rbin (op := op) (mE_ok e1 F h1).1 (mE_ok e2 F h2).1
  case lst l =>
    cases a <;> first | exact nomatch (show false = true from h) | skip
    simp only [mE] at h
    exact pe_rlst (mL_ok l F h)
  case slc e1 lo hi =>
    cases a <;> first | exact nomatch (show false = true from h) | skip
    rename_i x y pos
    cases y <;> first | exact nomatch (show false = true from h) | skip
    rename_i l hh st p2
    cases st <;> first | exact nomatch (show false = true from h) | skip
    simp only [mE, Bool.and_eq_true] at h
    obtain ⟨⟨h0, h1⟩, h2⟩ := h
    have q1 : PO X l (tO X.K C Wx (evO G lo)) := by
      cases l with
      | none =>
        obtain rfl := isNil_ok h1
        exact po_rnone
      | some y => exact po_rsome (fun z => by subst z; exact mE_nil h1) (mE_ok lo F h1).1
    have q2 : PO X hh (tO X.K C Wx (evO G hi)) := by
      cases hh with
      | none =>
        obtain rfl := isNil_ok h2
        exact po_rnone
      | some y => exact po_rsome (fun z => by subst z; exact mE_nil h2) (mE_ok hi F h2).1
    exact pe_rslc (mE_ok e1 F h0).1 q1 q2
  case rev e1 =>
    cases a <;> first | exact nomatch (show false = true from h) | skip
    rename_i x y pos
    cases y <;> first | exact nomatch (show false = true from h) | skip
    rename_i lo hi st p3
    cases lo <;> first | exact nomatch (show false = true from h) | skip
    cases hi <;> first | exact nomatch (show false = true from h) | skip
    cases st <;> first | exact nomatch (show false = true from h) | skip
    rename_i st
    cases st <;> first | exact nomatch (show false = true from h) | skip
    rename_i o st p2
    cases o <;> first | exact nomatch (show false = true from h) | skip
    cases st <;> first | exact nomatch (show false = true from h) | skip
    rename_i k kk p1
    cases k <;> first | exact nomatch (show false = true from h) | skip
    rename_i i
    rcases i with (_ | _ | i) | i <;> first | exact nomatch (show false = true from h) | skip
    have h : mE e1 x c = true := h
    exact pe_rrev (k := kk) (p1 := p1) (p2 := p2) (p3 := p3) (pos := pos) (mE_ok e1 F h).1
  case blt b l =>
    cases a <;> first | exact nomatch (show false = true from h) | skip
    rename_i f as ks pos
    cases f <;> first | exact nomatch (show false = true from h) | skip
    rename_i x p
    cases ks <;> first | exact nomatch (show false = true from h) | skip
    simp only [mE, Bool.and_eq_true, decide_eq_true_eq] at h
    obtain ⟨⟨⟨⟨rfl, h1⟩, h2⟩, h3⟩, h4⟩ := h
    have g := F.gl h1
    cases as with
    | nil => cases h2
    | cons x r => exact pe_rblt F.calm F.hu F.gd g.1 (F.G.blt _ (bltN_in b)) h3 (mL_ok l F h4)
  case comp vs e1 t i d =>
    cases a <;> first | exact nomatch (show false = true from h) | skip
    rename_i x gs scope pos
    rcases gs with _ | ⟨⟨tg, it, ifs, k⟩, _ | ⟨g2, gs⟩⟩ <;> first | exact nomatch (show false = true from h) | skip
    simp only [mE, Bool.and_eq_true, decide_eq_true_eq, List.all_eq_true] at h
    obtain ⟨⟨⟨⟨⟨⟨⟨rfl, h1⟩, h2⟩, h3⟩, h4⟩, h5⟩, h6⟩, h7⟩ := h
    have hown := ownOf_snd c vs
    have q := pe_rcomp (X := X) (C := C) (S := G) (Wx := Wx) (elt := x) (scope := scope) (own := ownOf c vs) (pos := pos) (t := t) (e := e1) (i := i) (c := d) (ifs := ifs) F.calm (by rw [F.N]; exact F.nd) (mI_ok i F h5) (blkOk_by (by rw [F.N, F.sc]; exact h1))
      (fun s H D cl fp => (F.blk scope s H D cl fp).pt h2) (fun s H D cl fp => ?_) (fun s H D cl fp => (mE_ok e1 (F.blk scope s H D cl fp) h6).1) (noSet_f h4 _) (by rw [hown]; exact h3)
    · rw [hown] at q
      exact q
    · rcases ifs with _ | ⟨y, _ | ⟨y2, ifs⟩⟩
      · obtain rfl := isNil_ok h7
        refine ⟨fun pins s σ H Q I hw => pts_nil.run pins s σ H Q I ?_⟩
        obtain ⟨W, fr, st, R, q⟩ := hw
        exact q W H (.refl _ _) rfl R
      · have hn : d ≠ .nil := fun z => by subst z; exact mE_nil h7
        rw [evC_some hn]
        exact pts_one (mE_ok d (F.blk scope s H D cl fp) h7).2
      · cases h7
  case comp2 vs e1 t i vs1 t1 i1 =>
    cases a <;> first | exact nomatch (show false = true from h) | skip
    rename_i x gs scope pos
    rcases gs with _ | ⟨⟨tg, it, ifs, k⟩, _ | ⟨⟨tg1, it1, ifs1, k1⟩, _ | ⟨g2, gs⟩⟩⟩ <;> first | exact nomatch (show false = true from h) | (cases ifs <;> first | exact nomatch (show false = true from h) | (cases ifs1 <;> exact nomatch (show false = true from h))) | skip
    cases ifs <;> first | exact nomatch (show false = true from h) | (cases ifs1 <;> exact nomatch (show false = true from h)) | skip
    cases ifs1 <;> first | exact nomatch (show false = true from h) | skip
    simp only [mE, Bool.and_eq_true, decide_eq_true_eq, List.all_eq_true] at h
    obtain ⟨⟨⟨⟨⟨⟨⟨⟨⟨⟨⟨⟨rfl, rfl⟩, h1⟩, hv⟩, h2⟩, h3⟩, h21⟩, h31⟩, h4⟩, h41⟩, h5⟩, h51⟩, h6⟩ := h
    have hown := ownOf_snd c vs
    have q := pe_rcomp2 (X := X) (C := C) (S := G) (Wx := Wx) (elt := x) (scope := scope) (own := ownOf c vs) (vs1 := vs1) (pos := pos) (t := t) (t1 := t1) (e := e1) (i := i) (i1 := i1) F.calm (by rw [F.N]; exact F.nd) (mI_ok i F h5) (blkOk_by (by rw [F.N, F.sc]; exact h1)) (by rw [hown]; exact hv)
      (fun s H D cl fp => (F.blk scope s H D cl fp).pt h2) (fun s H D cl fp => mI_ok i1 (F.blk scope s H D cl fp) h51) (fun s H D cl fp => (F.blk scope s H D cl fp).pt h21) (fun s H D cl fp => (mE_ok e1 (F.blk scope s H D cl fp) h6).1) (noSet_f h4 _) (fun env => noSet_f h41 env) (by rw [hown]; exact h3) h31
    rw [hown] at q
    exact q
  case lrg t a0 b0 =>
    cases a <;> first | exact nomatch (show false = true from h) | skip
    rename_i f as ks pos
    cases f <;> first | exact nomatch (show false = true from h) | skip
    rename_i x p
    rcases as with _ | ⟨y, as⟩ <;> first | exact nomatch (show false = true from h) | skip
    cases y <;> first | exact nomatch (show false = true from h) | skip
    rename_i f2 as2 ks2 pos2
    cases f2 <;> first | exact nomatch (show false = true from h) | skip
    cases ks2 <;> first | exact nomatch (show false = true from h) | skip
    cases as <;> first | exact nomatch (show false = true from h) | skip
    cases ks <;> first | exact nomatch (show false = true from h) | skip
    rename_i r p2
    simp only [mE, Bool.and_eq_true, decide_eq_true_eq] at h
    obtain ⟨⟨⟨⟨e1, h1⟩, rfl⟩, h2⟩, h3⟩ := h
    have g := F.gl h1
    have g2 := F.gl h2
    rcases as2 with _ | ⟨y, _ | ⟨z, _ | ⟨z2, as2⟩⟩⟩ <;> first | exact nomatch (show false = true from h3) | skip
    · simp only [Bool.and_eq_true] at h3
      obtain ⟨⟨h5, h3⟩, h4⟩ := h3
      obtain rfl := isNil_ok h5
      exact pe_rlrg1 (p := p) (pos := pos) (p2 := p2) (pos2 := pos2) e1 F.calm g.1 (F.G.blt _ (by rw [e1]; cases t <;> decide)) g2.1 (F.G.blt _ (by decide)) h3 (mE_ok a0 F h4).1
    · simp only [Bool.and_eq_true] at h3
      obtain ⟨⟨⟨h3, h5⟩, h4⟩, h6⟩ := h3
      exact pe_rlrg2 (p := p) (pos := pos) (p2 := p2) (pos2 := pos2) (fun z => by subst z; exact mE_nil h6) e1 F.calm g.1 (F.G.blt _ (by rw [e1]; cases t <;> decide)) g2.1 (F.G.blt _ (by decide)) h3 h5 (mE_ok a0 F h4).1 (mE_ok b0 F h6).1
/-- name = a comprehension on one line -/
theorem mE_lc {x : Str} {i0 : Nat} {px lp spos : Pos} {e : E} {elt : Expr} {gs : List Comprehension} {scope : Scope} (F : FitS c C G n Wx X) (hi0 : X.N[i0]? = some x) (hx : X.env.scope.names.lookup x = some .local)
    (hsw : swapsWith (.ListComp elt gs scope lp) (some (.Name x px)) spos.line X.env = pure true) (h : mE e (.ListComp elt gs scope lp) c = true) :
    PS X (.Assign [.Name x px] (.ListComp elt gs scope lp) spos) (fun D σ H => tFr X.K C Wx (evE G e) σ H fun v H1 => Sz H1 → D.nx (σ.set i0 (some v)) H1) := by
  cases e <;> first | exact nomatch (show false = true from h) | skip
  case comp2 vs e1 t i vs1 t1 i1 =>
    rcases gs with _ | ⟨⟨tg, it, ifs, k⟩, _ | ⟨⟨tg1, it1, ifs1, k1⟩, _ | ⟨g2, gs⟩⟩⟩ <;> first | exact nomatch (show false = true from h) | (cases ifs <;> first | exact nomatch (show false = true from h) | (cases ifs1 <;> exact nomatch (show false = true from h))) | skip
    cases ifs <;> first | exact nomatch (show false = true from h) | (cases ifs1 <;> exact nomatch (show false = true from h)) | skip
    cases ifs1 <;> first | exact nomatch (show false = true from h) | skip
    simp only [mE, Bool.and_eq_true, decide_eq_true_eq, List.all_eq_true] at h
    obtain ⟨⟨⟨⟨⟨⟨⟨⟨⟨⟨⟨⟨rfl, rfl⟩, h1⟩, hv⟩, h2⟩, h3⟩, h21⟩, h31⟩, h4⟩, h41⟩, h5⟩, h51⟩, h6⟩ := h
    have hown := ownOf_snd c vs
    have q := ps_setLc2 (X := X) (wi := tI X.K C Wx (evI G i)) (g := gOf X.K t) (wi1 := tI X.K C W0 (evI G i1)) (g1 := gOf X.K t1) (i := i0) (y := x) (py := px) (spos := spos) (elt := elt) (scope := scope) (own := ownOf c vs) (vs1 := vs1) (pos := lp) F.calm (by rw [F.N]; exact F.nd) hi0 hx hsw (mI_ok (S := G) i F.toFit h5) (blkOk_by (by rw [F.N, F.sc]; exact h1)) (by rw [hown]; exact hv)
      (fun s H D cl fp => (F.toFit.blk scope s H D cl fp).pt h2) (fun s H D cl fp => pts_nil) (fun s H D cl fp => mI_ok (S := G) i1 (F.toFit.blk scope s H D cl fp) h51) (fun s H D cl fp => (F.toFit.blk scope s H D cl fp).pt h21)
      (tt1 := tT X.K C W0 (fun _ st => .ok true st)) (fun s H D cl fp => pts_yes (C := C) (X := X.blk s H scope (compEnvC scope cl D X.env) fp)) (te := tE X.K C W0 (evE G e1)) (fun s H D cl fp => (mE_ok e1 (F.toFit.blk scope s H D cl fp) h6).1) (noSet_f h4 _) (fun env => noSet_f h41 env)
    refine ⟨fun pins s σ H D I q2 => ?_⟩
    refine wpAny_mono (q.run pins s σ H { D with nx := fun σ' H' => Sz H' → D.nx σ' H' } I ?_) (fun f s1 hsp => ?_) fun _ _ z => z
    · rw [hown]
      exact comp2_t (X := X) h3 h31 (Q := fun v H1 => Sz H1 → D.nx (σ.set i0 (some v)) H1) q2
    · cases f with
      | next =>
        obtain ⟨σ1, H1, I1, q1⟩ := hsp
        exact ⟨σ1, H1, I1, q1 (Inv.sz' I1)⟩
      | ret v => exact hsp
      | brk => exact hsp
      | cont => exact hsp
  rename_i vs e1 t i d
  rcases gs with _ | ⟨⟨tg, it, ifs, k⟩, _ | ⟨g2, gs⟩⟩ <;> first | exact nomatch (show false = true from h) | skip
  simp only [mE, Bool.and_eq_true, decide_eq_true_eq, List.all_eq_true] at h
  obtain ⟨⟨⟨⟨⟨⟨⟨rfl, h1⟩, h2⟩, h3⟩, h4⟩, h5⟩, h6⟩, h7⟩ := h
  have hown := ownOf_snd c vs
  have q := ps_setLc (X := X) (i := i0) (y := x) (py := px) (spos := spos) (elt := elt) (scope := scope) (own := ownOf c vs) (pos := lp) (ifs := ifs) F.calm (by rw [F.N]; exact F.nd) hi0 hx hsw (mI_ok (S := G) i F.toFit h5) (blkOk_by (by rw [F.N, F.sc]; exact h1))
    (fun s H D cl fp => (F.toFit.blk scope s H D cl fp).pt h2) (tt := tT X.K C W0 (evC G d)) (te := tE X.K C W0 (evE G e1)) (g := gOf X.K t) (wi := tI X.K C Wx (evI G i)) (fun s H D cl fp => ?_) (fun s H D cl fp => (mE_ok e1 (F.toFit.blk scope s H D cl fp) h6).1) (noSet_f h4 _)
  · refine ⟨fun pins s σ H D I q2 => ?_⟩
    have hsub : ∀ j ∈ slotsT t, j ∈ vs := h3
    refine wpAny_mono (q.run pins s σ H { D with nx := fun σ' H' => Sz H' → D.nx σ' H' } I ?_) (fun f s1 hsp => ?_) fun _ _ z => z
    · rw [hown]
      exact comp_t (X := X) hsub (Q := fun v H1 => Sz H1 → D.nx (σ.set i0 (some v)) H1) q2
    · cases f with
      | next =>
        obtain ⟨σ1, H1, I1, q1⟩ := hsp
        exact ⟨σ1, H1, I1, q1 (Inv.sz' I1)⟩
      | ret v => exact hsp
      | brk => exact hsp
      | cont => exact hsp
  · rcases ifs with _ | ⟨y, _ | ⟨y2, ifs⟩⟩
    · obtain rfl := isNil_ok h7
      refine ⟨fun pins s σ H Q I hw => pts_nil.run pins s σ H Q I ?_⟩
      obtain ⟨W, fr, st, R, q⟩ := hw
      exact q W H (.refl _ _) rfl R
    · have hn : d ≠ .nil := fun z => by subst z; exact mE_nil h7
      rw [evC_some hn]
      exact pts_one (mE_ok d (F.toFit.blk scope s H D cl fp) h7).2
    · cases h7
end
end Rm
set_option Elab.async false
set_option linter.all false
set_option maxHeartbeats 8000000
/-! The look at statements is right. -/
namespace Rm
open PySem PySem.Spec L2
section
variable {C : Nat → Addr} {G : Sig} {n : Nat} {c : Ctx} {Wx : WX} {X : Cx}
theorem PS_imp {x : Stmt} {t t' : TS} (h : PS X x t) (k : ∀ D σ H, t' D σ H → t D σ H) : PS X x t' := ⟨fun pins s σ H D I q => h.run pins s σ H D I (k D σ H q)⟩
theorem PSs_imp {x : List Stmt} {t t' : TS} (h : PSs X x t) (k : ∀ D σ H, t' D σ H → t D σ H) : PSs X x t' := ⟨fun pins s σ H D I q => h.run pins s σ H D I (k D σ H q)⟩
theorem sw_name {v : Expr} {x : Str} {p : Pos} {l : Nat} {env : Env} : (swapsWith v (some (.Name x p)) l env = pure false) ∨ (swapsWith v (some (.Name x p)) l env = pure true ∧ env.scope.names.lookup x = some .local ∧ notLc v = false) := by
  have key : ∀ sc : Scope, ∀ lp : Pos, ∀ b : Bool, b = (env.blockKind == .function && env.kindOf x == some .local && p.line == lp.line && !(sc.names.any fun (n, k) => n == x && (k == .local || k == .cell))) → b = true → env.scope.names.lookup x = some .local := by
    intro sc lp b e hb
    rw [e] at hb
    simp only [Bool.and_eq_true] at hb
    exact eq_of_beq hb.1.1.2
  have fin : ∀ sc : Scope, ∀ lp : Pos, swapsWith v (some (.Name x p)) l env = pure (env.blockKind == .function && env.kindOf x == some .local && p.line == lp.line && !(sc.names.any fun (n, k) => n == x && (k == .local || k == .cell))) → notLc v = false →
      (swapsWith v (some (.Name x p)) l env = pure false) ∨ (swapsWith v (some (.Name x p)) l env = pure true ∧ env.scope.names.lookup x = some .local ∧ notLc v = false) := by
    intro sc lp e hn
    cases hb : (env.blockKind == .function && env.kindOf x == some .local && p.line == lp.line && !(sc.names.any fun (n, k) => n == x && (k == .local || k == .cell))) with
    | false => exact .inl (by rw [e, hb])
    | true => exact .inr ⟨by rw [e, hb], key sc lp _ rfl hb, hn⟩
  cases v <;> first
    | exact .inl rfl
    | exact fin _ _ rfl rfl
theorem mE_sc {e : E} {elt : Expr} {gs : List Comprehension} {sc : Scope} {lp : Pos} (h : mE e (.SetComp elt gs sc lp) c = true) : False := by
  cases e <;> first | exact nomatch (show false = true from h) | skip
theorem mE_dc {e : E} {k v : Expr} {gs : List Comprehension} {sc : Scope} {lp : Pos} (h : mE e (.DictComp k v gs sc lp) c = true) : False := by
  cases e <;> first | exact nomatch (show false = true from h) | skip
/-- name = value -/
theorem ps_nm {i : Nat} {x : Str} {p pos : Pos} {e : E} {v : Expr} (F : FitS c C G n Wx X) (hi : X.N[i]? = some x) (hx : stoN c x = true) (h : mE e v c = true) :
    PS X (.Assign [.Name x p] v pos) (fun D σ H => tE X.K C Wx (evE G e) σ H fun v H1 => D.nx (σ.set i (some v)) H1) := by
  obtain ⟨l1, l2⟩ := stoN_ok F.toFit hx
  rcases sw_name (v := v) (x := x) (p := p) (l := pos.line) (env := X.env) with hs | ⟨hs, hl, hn⟩
  · exact ps_set (by rw [F.N]; exact F.nd) hi l1 (mE_ok e F.toFit h).1 hs l2
  · cases v <;> first | exact nomatch (show true = false from hn) | exact (mE_sc h).elim | exact (mE_dc h).elim | skip
    refine PS_imp (mE_lc F hi hl hs h) fun D σ H q => ?_
    have := tE_fr q
    obtain ⟨W, fr, st, R, q⟩ := this
    exact ⟨W, fr, st, R, q.imp (fun z st' e => ⟨fun W' H' v hp x o R' D _ => e.1 W' H' v hp x o R' D, fun W' H' a us xs hp x o R' e1 D n1 n2 n3 hn _ => e.2 W' H' a us xs hp x o R' e1 D n1 n2 n3 hn⟩) fun _ _ _ z => z⟩
theorem ps_nmF {i : Nat} {x : Str} {p pos : Pos} {e : E} {v : Expr} (F : FitS c C G n Wx X) (hi : X.N[i]? = some x) (hx : stoN c x = true) (hf : isFresh e = true) (h : mE e v c = true) :
    PS X (.Assign [.Name x p] v pos) (fun D σ H => tFr X.K C Wx (evE G e) σ H fun v H1 => D.nx (σ.set i (some v)) H1) := by
  obtain ⟨l1, l2⟩ := stoN_ok F.toFit hx
  rcases sw_name (v := v) (x := x) (p := p) (l := pos.line) (env := X.env) with hs | ⟨hs, hl, hn⟩
  · exact ps_set (by rw [F.N]; exact F.nd) hi l1 (mE_fr F.toFit hf h) hs l2
  · cases v <;> first | exact nomatch (show true = false from hn) | exact (mE_sc h).elim | exact (mE_dc h).elim | skip
    refine PS_imp (mE_lc F hi hl hs h) fun D σ H q => ?_
    obtain ⟨W, fr, st, R, q⟩ := q
    exact ⟨W, fr, st, R, q.imp (fun z st' e => ⟨fun W' H' v hp x o R' D _ => e.1 W' H' v hp x o R' D, fun W' H' a us xs hp x o R' e1 D n1 n2 n3 hn _ => e.2 W' H' a us xs hp x o R' e1 D n1 n2 n3 hn⟩) fun _ _ _ z => z⟩
theorem tSt_set {i : Nat} {e : E} {D : Ends} {σ : St} {H : Hp} (q : tSt X.K C Wx (exS G (.set i e)) D σ H) : tE X.K C Wx (evE G e) σ H fun v H1 => D.nx (σ.set i (some v)) H1 := by
  obtain ⟨W, fr, st, R, q⟩ := q
  simp only [exS] at q
  exact ⟨W, fr, st, R, (res_post q).imp (fun p st1 h W1 H1 v x o R1 d => end_set h x o R1 d) fun _ _ _ z => z⟩
theorem tSt_own {i : Nat} {e : E} {D : Ends} {σ : St} {H : Hp} (q : tSt X.K C Wx (exS G (.own i e)) D σ H) : tFr X.K C Wx (evE G e) σ H fun v H1 => D.nx (σ.set i (some v)) H1 := by
  obtain ⟨W, fr, st, R, q⟩ := q
  simp only [exS] at q
  refine ⟨W, fr, st, R, (res_post q).imp (fun p st1 h => ⟨fun W1 H1 v hp x o R1 d => ?_, fun W1 H1 a us xs hp x o R1 e d n1 n2 n3 hn => ?_⟩) fun _ _ _ z => z⟩
  · have : ownF i p fr = none := by
      unfold ownF
      split
      · exact absurd rfl (hp _)
      · rfl
    rw [this] at h
    exact h.elim
  · subst hp
    exact end_own (p := .non) h x o R1 e d n1 n2 n3 hn
/-- target = value -/
theorem ps_tg {t : T} {e : E} {tg v : Expr} {pos : Pos} (F : FitS c C G n Wx X) (hp : plainT c tg v = true) (hT : mT c tg t = true) (h : mE e v c = true) : PS X (.Assign [tg] v pos) (tSt X.K C Wx (exS G (.tgt t e))) := by
  cases tg <;> first | exact nomatch (show false = true from hp) | skip
  rename_i ts k tp
  have hw : swappedStores [.Tuple ts k tp] v X.env = pure none := by
    cases v <;> first | rfl | skip
    rename_i vs k2 vp
    have hp : (vs.all (foldedForSure 8) || ts.any fun | .Name id _ => !(c.sc.names.lookup id == some .local) | _ => true) = true := hp
    rcases (Bool.or_eq_true _ _).mp hp with hp | hp
    · exact sw_fold hp
    · obtain ⟨y, hy, hq⟩ := List.any_eq_true.mp hp
      refine sw_cell hy ?_
      cases y <;> first | rfl | skip
      rename_i id pp
      show (X.env.scope.names.lookup id == some .local) = false
      rw [F.sc]
      simpa using hq
  refine PS_imp (ps_asg (mE_ok e F.toFit h).1 (F.pt hT) (by cases v <;> rfl) hw rfl) fun D σ H q => ?_
  obtain ⟨W, fr, st, R, q⟩ := q
  simp only [exS] at q
  refine ⟨W, fr, st, R, (res_post q).imp (fun p st1 h W1 H1 v x o R1 d => ?_) fun _ _ _ z => z⟩
  split at h
  · rename_i hk
    cases ha : asg t p fr with
    | none =>
      rw [ha] at h
      exact h.elim
    | some fr' =>
      rw [ha] at h
      exact asg_ok ha (d.den hk) R1.slots fun σ' sl _ _ => h _ _ _ ((x.toS o).trans onlyS) (sl.rel R1.s)
  · exact h.elim
/-- a, b, d = three values -/
theorem tSt_par3 {i j l : Nat} {a b d : E} {D : Ends} {σ : St} {H : Hp} (q : tSt X.K C Wx (exS G (.par3 i j l a b d)) D σ H) : tPar3 i j l (tCons (tE X.K C Wx (evE G a)) (tCons (tE X.K C Wx (evE G b)) (tCons (tE X.K C Wx (evE G d)) tNil))) D σ H := by
  obtain ⟨W, fr, st, R, q⟩ := q
  simp only [exS] at q
  refine ⟨W, fr, st, R, (res_post q).imp (fun p st1 h W1 H1 v x o R1 dv => ⟨W1, fr, st1, R1, (res_post h).imp (fun p2 st2 h2 W2 H2 w x2 o2 R2 d2 => ⟨W2, fr, st2, R2, (res_post h2).imp (fun p3 st3 h3 W3 H3 y x3 o3 R3 d3 => ?_) fun _ _ _ z => EndX.shift (EndX.shift z x o) x2 o2⟩) fun _ _ _ z => EndX.shift z x o⟩) fun _ _ _ z => z⟩
  unfold setF at h3
  by_cases hk : keep p = true ∧ i < fr.length
  · rw [if_pos hk] at h3
    simp only [Option.bind_some, List.length_set] at h3
    by_cases hk2 : keep p2 = true ∧ j < fr.length
    · rw [if_pos hk2] at h3
      simp only [Option.bind_some, List.length_set] at h3
      by_cases hk3 : keep p3 = true ∧ l < fr.length
      · rw [if_pos hk3] at h3
        have R4 := R3.setv ((DenM.ext R2.s.sep x3 o3 (DenM.ext R1.s.sep x2 o2 dv)).den hk.1) hk.2
        have R5 := R4.setv (i := j) (((DenM.ext R2.s.sep x3 o3 d2).den hk2.1).withO) (by rw [List.length_set]; exact hk2.2)
        have R6 := R5.setv (i := l) (((d3.den hk3.1).withO).withO) (by rw [List.length_set, List.length_set]; exact hk3.2)
        exact ⟨v, w, y, rfl, h3 _ _ _ ((((((x.toS o).trans (x2.toS o2)).trans (x3.toS o3)).trans onlyS).trans onlyS).trans onlyS) R6⟩
      · rw [if_neg hk3] at h3
        exact h3.elim
    · rw [if_neg hk2] at h3
      exact h3.elim
  · rw [if_neg hk] at h3
    exact h3.elim
/-- a, b = two values -/
theorem tSt_par {i j : Nat} {a b : E} {D : Ends} {σ : St} {H : Hp} (q : tSt X.K C Wx (exS G (.par i j a b)) D σ H) : tPar i j (tCons (tE X.K C Wx (evE G a)) (tCons (tE X.K C Wx (evE G b)) tNil)) D σ H := by
  obtain ⟨W, fr, st, R, q⟩ := q
  simp only [exS] at q
  refine ⟨W, fr, st, R, (res_post q).imp (fun p st1 h W1 H1 v x o R1 d => ⟨W1, fr, st1, R1, (res_post h).imp (fun p2 st2 h2 W2 H2 w x2 o2 R2 d2 => ?_) fun _ _ _ z => EndX.shift z x o⟩) fun _ _ _ z => z⟩
  unfold setF at h2
  by_cases hk : keep p = true ∧ i < fr.length
  · rw [if_pos hk] at h2
    simp only [Option.bind_some, List.length_set] at h2
    by_cases hk2 : keep p2 = true ∧ j < fr.length
    · rw [if_pos hk2] at h2
      have R3 := R2.setv ((DenM.ext R1.s.sep x2 o2 d).den hk.1) hk.2
      have R4 := R3.setv (i := j) ((d2.den hk2.1).withO) (by rw [List.length_set]; exact hk2.2)
      exact ⟨v, w, rfl, h2 _ _ _ ((((x.toS o).trans (x2.toS o2)).trans onlyS).trans onlyS) R4⟩
    · rw [if_neg hk2] at h2
      exact h2.elim
  · rw [if_neg hk] at h2
    exact h2.elim
theorem augF_ok {op : Op} {p q z : PV} (h : augF op p q = some z) : ∃ i j k : Int, p = .int i ∧ q = .int j ∧ z = .int k ∧ ((op = .add ∧ k = i + j) ∨ (op = .sub ∧ k = i - j)) := by
  unfold augF at h
  split at h
  · split at h
    · cases h
      exact ⟨_, _, _, rfl, rfl, rfl, .inl ⟨rfl, rfl⟩⟩
    · cases h
      exact ⟨_, _, _, rfl, rfl, rfl, .inr ⟨rfl, rfl⟩⟩
    · cases h
  · cases h
theorem lst_slot {W : Wd} {H : Hp} {σ : St} {fr : Frm} {st : Sto} {i : Nat} (R : Rel X.K C W H σ fr st) (h : lstSlot fr st i = true) : ∃ a us, σ[i]? = some (some (.ref a)) ∧ H a = some (.lst us) := by
  unfold lstSlot at h
  split at h
  · rename_i xs e
    obtain ⟨a, us, h1, h2, h3, h4⟩ := R.own i xs e
    exact ⟨a, us, h1, h3⟩
  · rename_i m e
    obtain ⟨v, h1, h2⟩ := R.slt i _ e
    cases h2 with
    | ref hr =>
      obtain ⟨us, hu⟩ := R.s.sep.rl _ _ hr
      exact ⟨_, us, h1, hu⟩
  · cases h
end
end Rm
set_option Elab.async false
set_option linter.all false
set_option maxHeartbeats 1000000
/-! The look at statements is right: all of them. -/
namespace Rm
open PySem PySem.Spec L2
section
variable {C : Nat → Addr} {G : Sig} {n : Nat}
variable {c : Ctx} {Wx : WX} {X : Cx}
/-- a write, and what comes after -/
theorem resP_then {W : Wd} {H : Hp} {D : Ends} {r : Res} {k : Frm → Sto → Res} (h : ResP X.K C Wx W H D (r.then k)) :
    ResP X.K C Wx W H { D with nx := fun σ' H' => ∃ W' fr st, ExtS W H W' H' ∧ Rel X.K C W' H' σ' fr st ∧ ResP X.K C Wx W' H' D (k fr st) } r := by
  cases r with
  | nx fr st => exact fun W' H' σ' x R => ⟨W', fr, st, x, R, ResP.shift h x⟩
  | bk fr st => exact h
  | ct fr st => exact h
  | rt p st => exact h
  | ex c p fr st => exact h
  | bad => exact h
/-- xs.insert(k, e) -/
theorem ps_inst {i : Nat} {x nm : Str} {px ap cp pos : Pos} {k e : E} {y v : Expr} (F : FitS c C G n Wx X) (hnm : nm = "insert") (hi : X.N[i]? = some x) (hv : isVis c.sc x = true) (hp : plainN x = true) (hl : (ap.endLine == cp.line) = true) (ns : noStar y = true) (ns2 : noStar v = true) (hk : mE k y c = true) (h : mE e v c = true) :
    PS X (.Expr (.Call (.Attribute (.Name x px) nm ap) [y, v] [] cp) pos) (tSt X.K C Wx (exS G (.ins i k e))) := by
  subst hnm
  have pl := plainN_ok hp
  refine PS_imp (ps_expr (pe_bm PySem.F.plainAttrs_list PySem.F.slot_list_insert PySem.F.type_list_insert mt_insert (pe_var (pos := px) hi (by rw [F.sc]; exact isVis_ok hv) pl.1 pl.2.1) (pa_cons (mE_ok k F.toFit hk).1 (pa_cons (mE_ok e F.toFit h).1 pa_nil (star_cons ns2)) (star_cons ns)) rfl (by rw [star_cons ns, star_cons ns2]; rfl) hl (star_cons ns) (by rw [star_cons ns2]; rfl)) rfl) fun D σ H q => ?_
  obtain ⟨W, fr, st, R, q⟩ := q
  simp only [exS] at q
  split at q
  · rename_i hs
    obtain ⟨a, us, h1, h2⟩ := lst_slot R hs
    refine ⟨.ref a, h1, .inl ⟨rfl, us, SqL.of h2⟩, W, fr, st, R, (res_post q).imp (fun p st1 h W1 H1 u x o R1 d => ⟨W1, fr, st1, R1, (res_post h).imp (fun p2 st2 h2 W2 H2 w x2 o2 R2 d2 => ?_) fun _ _ _ z => EndX.shift z x o⟩) fun _ _ _ z => z⟩
    obtain ⟨a', ws, xs, ys, e1, e2, e3, e4, e5⟩ := wr_end R2 h1 (ResP.shift h2 ((x.toS o).trans (x2.toS o2)))
    cases e1
    unfold insL at e4
    split at e4
    · rename_i kk
      split at e4
      · rename_i hok
        cases e4
        have dk := d.den rfl
        cases dk
        have hz : ws.length < sizeLine := by
          rw [e3.len]
          exact hok.2.1
        refine ⟨a, ws, kk, w, rfl, rfl, e2, hz, hok.2.2.1, hok.2.2.2, e5 _ (((e3.take _).app (.cons (d2.den hok.1) .nil)).app (e3.drop _)) ?_⟩
        rw [List.length_append, List.length_append, List.length_take, List.length_drop, List.length_singleton]
        omega
      · cases e4
    · cases e4
  · exact q.elim
theorem stoF_ok {k p : PV} {xs ys : List PV} (h : stoF k p xs = some ys) : ∃ kk j, k = .int kk ∧ keep p = true ∧ ixN xs.length kk = some j ∧ ys = xs.set j p := by
  unfold stoF at h
  split at h
  · split at h
    · rename_i kk hk
      simp only [Option.map_eq_some_iff] at h
      obtain ⟨j, hj, rfl⟩ := h
      exact ⟨kk, j, rfl, hk, hj, rfl⟩
    · cases h
  · cases h
/-- xs[a], xs[b] = p, q -/
theorem ps_swap {i : Nat} {x : Str} {px py p1 p2 tp pos : Pos} {kk : Nat} {a b v : E} {ax bx w : Expr} (F : FitS c C G n Wx X) (hi : X.N[i]? = some x) (hv : isVis c.sc x = true) (hp : plainN x = true) (na : noSlice ax = true) (nb : noSlice bx = true) (ha : mE a ax c = true) (hb : mE b bx c = true) (h : mE v w c = true) :
    PS X (.Assign [.Tuple [.Subscript (.Name x px) ax p1, .Subscript (.Name x py) bx p2] kk tp] w pos) (tSt X.K C Wx (exS G (.swp i a b v))) := by
  have pl := plainN_ok hp
  have hw : swappedStores [.Tuple [.Subscript (.Name x px) ax p1, .Subscript (.Name x py) bx p2] kk tp] w X.env = pure none := by
    cases w <;> first | rfl | skip
    exact sw_cell List.mem_cons_self rfl
  have gs : ∀ {ix : Expr} {j : E} {pn pq : Pos}, noSlice ix = true → mE j ix c = true → PG X (.Subscript (.Name x pn) ix pq) (gSub (tVar i) (tE X.K C Wx (evE G j)) rSetL) := fun {ix j pn pq} n1 m1 =>
    pg_sub (pe_var (pos := pn) hi (by rw [F.sc]; exact isVis_ok hv) pl.1 pl.2.1) (mE_ok j F.toFit m1).1 set_list (by cases ix <;> first | (intro _; rfl) | exact nomatch (show false = true from n1))
  have gt : PG X (.Tuple [.Subscript (.Name x px) ax p1, .Subscript (.Name x py) bx p2] kk tp) (gTup X.K 2 (gCons (gSub (tVar i) (tE X.K C Wx (evE G a)) rSetL) (gCons (gSub (tVar i) (tE X.K C Wx (evE G b)) rSetL) gNil))) :=
    pg_tup (n := 2) F.calm (pgs_cons (gs na ha) (pgs_cons (gs nb hb) pgs_nil rfl) rfl) rfl rfl
  have hs : swapsWithSole [.Tuple [.Subscript (.Name x px) ax p1, .Subscript (.Name x py) bx p2] kk tp] w pos.line X.env = pure false := by cases w <;> rfl
  refine PS_imp (ps_asg (pos := pos) (mE_ok v F.toFit h).1 gt hs hw rfl) fun D σ H q => ?_
  obtain ⟨W, fr, st, R, q⟩ := q
  simp only [exS] at q
  split at q
  · rename_i hs
    refine ⟨W, fr, st, R, (res_post q).imp (fun t st1 h W1 H1 u xx o R1 d => ?_) fun _ _ _ z => z⟩
    obtain ⟨l, us, h1, h2⟩ := lst_slot R hs
    cases hpt : pairF t with
    | none =>
      rw [hpt] at h
      exact h.elim
    | some pq =>
      rw [hpt] at h
      obtain ⟨p, q2⟩ := pq
      have et : t = .seq true [p, q2] := by
        unfold pairF at hpt
        split at hpt
        · cases hpt
          rfl
        · cases hpt
      subst et
      have dt := d.den rfl
      cases dt with
      | tup sq ds =>
        rename_i ta vs
        obtain ⟨v1, v2, rfl, d1, d2⟩ : ∃ v1 v2, vs = [v1, v2] ∧ Den X.K C W1 H1 v1 p ∧ Den X.K C W1 H1 v2 q2 := by
          cases ds with
          | cons d1 t =>
            cases t with
            | cons d2 t =>
              cases t
              exact ⟨_, _, rfl, d1, d2⟩
        refine ⟨ta, _, rfl, sq, rfl, v1, [v2], rfl, ?_⟩
        dsimp only at h
        refine ⟨.ref l, h1, W1, fr, st1, R1, (res_post h).imp (fun j st2 h3 W2 H2 jx x2 o2 R2 dj => ?_) fun _ _ _ z => EndX.shift z xx o⟩
        have h5 := ResP.shift h3 ((xx.toS o).trans (x2.toS o2))
        have h6 := resP_then h5
        obtain ⟨a', ws, xs, ys, e1, e2, e3, e4, e5⟩ := wr_end R2 h1 h6
        cases e1
        obtain ⟨kk, jj, ej, hk, hj, ey⟩ := stoF_ok e4
        subst ej ey
        have dk := dj.den rfl
        cases dk
        refine ⟨l, ws, kk, jj, rfl, rfl, e2, by rw [e3.len]; exact hj, ?_⟩
        obtain ⟨W3, fr3, st3, x3, R3, h7⟩ := e5 _ (e3.set jj (d1.ext R1.s.sep x2)) (by
          rw [List.length_set]
          exact R2.s.sz l ws (.inl (.inl e2)))
        refine ⟨v2, [], rfl, .ref l, h1, W3, fr3, st3, R3, (res_post h7).imp (fun k st4 h8 W4 H4 kx x4 o4 R4 dk => ?_) fun _ _ _ z => z⟩
        obtain ⟨a'', ws2, xs2, ys2, f1, f2, f3, f4, f5⟩ := wr_end R4 h1 (ResP.shift h8 (x4.toS o4))
        cases f1
        obtain ⟨k2, j2, ej2, hk2, hj2, ey2⟩ := stoF_ok f4
        subst ej2 ey2
        have dk2 := dk.den rfl
        cases dk2
        refine ⟨l, ws2, k2, j2, rfl, rfl, f2, by rw [f3.len]; exact hj2, rfl, ?_⟩
        exact f5 _ (f3.set j2 (((d2.ext R1.s.sep x2).extP (x3.toP R2.s.sep)).ext R3.s.sep x4)) (by
          rw [List.length_set]
          exact R4.s.sz l ws2 (.inl (.inl f2)))
  · exact q.elim
end
end Rm
set_option Elab.async false
set_option linter.all false
set_option maxHeartbeats 8000000
/-! The look at statements is right: all of them. -/
namespace Rm
open PySem PySem.Spec L2
section
variable {C : Nat → Addr} {G : Sig} {n : Nat}
theorem Sz.tag {H : Hp} {a : Addr} {φ : Heap → Prop} (z : Sz H) : Sz (L2.upd H a (.ext φ)) := fun b ws q => by
  by_cases e : b = a
  · subst e
    rcases q with (q | ⟨o, q⟩) | (q | ⟨o, q⟩) <;> rw [upd_same] at q <;> cases q
  · rcases q with (q | ⟨o, q⟩) | (q | ⟨o, q⟩) <;> rw [upd_ne e] at q
    · exact z b ws (.inl (.inl q))
    · exact z b ws (.inl (.inr ⟨o, q⟩))
    · exact z b ws (.inr (.inl q))
    · exact z b ws (.inr (.inr ⟨o, q⟩))
section
variable {c : Ctx} {Wx : WX} {X : Cx}
theorem ps_apnd {i : Nat} {x nm : Str} {px ap cp pos : Pos} {e : E} {v : Expr} (F : FitS c C G n Wx X) (hnm : nm = "append") (hi : X.N[i]? = some x) (hv : isVis c.sc x = true) (hp : plainN x = true) (hl : (ap.endLine == cp.line) = true) (ns : noStar v = true) (h : mE e v c = true) :
    PS X (.Expr (.Call (.Attribute (.Name x px) nm ap) [v] [] cp) pos) (tSt X.K C Wx (exS G (.app i e))) := by
  subst hnm
  have pl := plainN_ok hp
  refine PS_imp (ps_expr (pe_bm PySem.F.plainAttrs_list PySem.F.slot_list_append PySem.F.type_list_append mt_append (pe_var (pos := px) hi (by rw [F.sc]; exact isVis_ok hv) pl.1 pl.2.1) (pa_cons (mE_ok e F.toFit h).1 pa_nil (star_cons ns)) rfl (by rw [star_cons ns]; rfl) hl (star_cons ns)) rfl) fun D σ H q => ?_
  obtain ⟨W, fr, st, R, q⟩ := q
  simp only [exS] at q
  split at q
  · rename_i hs
    obtain ⟨a, us, h1, h2⟩ := lst_slot R hs
    refine ⟨.ref a, h1, .inl ⟨rfl, us, SqL.of h2⟩, W, fr, st, R, (res_post q).imp (fun p st1 h W1 H1 u x o R1 d => ?_) fun _ _ _ z => z⟩
    obtain ⟨a', ws, xs, ys, e1, e2, e3, e4, e5⟩ := wr_end R1 h1 (ResP.shift h (x.toS o))
    cases e1
    unfold appF at e4
    split at e4
    · rename_i hk
      cases e4
      have hz : ws.length < sizeLine := by
        rw [e3.len]
        exact hk.2
      exact ⟨a, ws, u, rfl, rfl, e2, hz, e5 _ (e3.app (.cons (d.den hk.1) .nil)) (by rw [List.length_append, List.length_singleton]; exact hz)⟩
    · cases e4
  · exact q.elim
theorem ps_stor {i : Nat} {x : Str} {px p2 pos : Pos} {k e : E} {kx v : Expr} (F : FitS c C G n Wx X) (hi : X.N[i]? = some x) (hv : isVis c.sc x = true) (hp : plainN x = true) (nk : noSlice kx = true) (hk : mE k kx c = true) (h : mE e v c = true) :
    PS X (.Assign [.Subscript (.Name x px) kx p2] v pos) (tSt X.K C Wx (exS G (.sto i k e))) := by
  have pl := plainN_ok hp
  refine PS_imp (ps_asg (mE_ok e F.toFit h).1 (pg_sub (pe_var (pos := px) hi (by rw [F.sc]; exact isVis_ok hv) pl.1 pl.2.1) (mE_ok k F.toFit hk).1 set_list (by cases kx <;> first | (intro _; rfl) | exact nomatch (show false = true from nk))) (by cases v <;> rfl) (by cases v <;> rfl) rfl) fun D σ H q => ?_
  obtain ⟨W, fr, st, R, q⟩ := q
  simp only [exS] at q
  split at q
  · rename_i hs
    obtain ⟨a, us, h1, h2⟩ := lst_slot R hs
    refine ⟨W, fr, st, R, (res_post q).imp (fun p st1 h W1 H1 u x o R1 d => ⟨.ref a, h1, W1, fr, st1, R1, (res_post h).imp (fun y st2 h2 W2 H2 w x2 o2 R2 d2 => ?_) fun _ _ _ z => EndX.shift z x o⟩) fun _ _ _ z => z⟩
    obtain ⟨a', ws, xs, ys, e1, e2, e3, e4, e5⟩ := wr_end R2 h1 (ResP.shift h2 ((x.toS o).trans (x2.toS o2)))
    cases e1
    unfold stoF at e4
    split at e4
    · split at e4
      · rename_i kk hk
        simp only [Option.map_eq_some_iff] at e4
        obtain ⟨j, hj, rfl⟩ := e4
        have dk := d2.den rfl
        cases dk
        refine ⟨a, ws, kk, j, rfl, rfl, e2, by rw [e3.len]; exact hj, e5 _ (e3.set j ((DenM.ext R1.s.sep x2 o2 d).den hk)) ?_⟩
        rw [List.length_set]
        exact R2.s.sz a ws (.inl (.inl e2))
      · cases e4
    · cases e4
  · exact q.elim
theorem ps_augm {i : Nat} {x : Str} {p pos : Pos} {op : Op} {e : E} {v : Expr} (F : FitS c C G n Wx X) (ho : op = .add ∨ op = .sub) (hi : X.N[i]? = some x) (hx : stoN c x = true) (h : mE e v c = true) :
    PS X (.AugAssign (.Name x p) (opA op) v pos) (tSt X.K C Wx (exS G (.aug i op e))) := by
  obtain ⟨l1, l2⟩ := stoN_ok F.toFit hx
  have nd : X.N.Nodup := by rw [F.N]; exact F.nd
  have key : ∀ (f : Int → Int → Int), (∀ i j k, ((op = .add ∧ k = i + j) ∨ (op = .sub ∧ k = i - j)) → k = f i j) → ∀ D σ H, tSt X.K C Wx (exS G (.aug i op e)) D σ H → tAug i (tE X.K C Wx (evE G e)) (ipI f) D σ H := by
    intro f hf D σ H q
    obtain ⟨W, fr, st, R, q⟩ := q
    simp only [exS] at q
    cases hv : valF fr i with
    | none =>
      rw [hv] at q
      exact q.elim
    | some x0 =>
      rw [hv] at q
      have hs : fr[i]? = some (some (.val x0)) := by
        unfold valF at hv
        split at hv
        · cases hv
          assumption
        · cases hv
      obtain ⟨v0, h1, h2⟩ := R.slt i _ hs
      refine ⟨v0, h1, W, fr, st, R, (res_post q).imp (fun p st1 h W1 H1 u x o R1 d => ?_) fun _ _ _ z => z⟩
      cases ha : augF op x0 p with
      | none =>
        rw [ha] at h
        exact h.elim
      | some z =>
        rw [ha] at h
        obtain ⟨a, b, k, rfl, rfl, rfl, hk⟩ := augF_ok ha
        cases h2
        have dd := d.den rfl
        cases dd
        refine ⟨a, b, rfl, rfl, ?_⟩
        have := hf a b k hk
        subst this
        exact end_set h x o R1 (.inl (.int _))
  rcases ho with rfl | rfl
  · exact PS_imp (ps_aug nd hi l1 (mE_ok e F.toFit h).1 ip_add l2) (key _ fun i j k h => by
      rcases h with ⟨_, h⟩ | ⟨h, _⟩
      · exact h
      · cases h)
  · exact PS_imp (ps_aug nd hi l1 (mE_ok e F.toFit h).1 ip_sub l2) (key _ fun i j k h => by
      rcases h with ⟨h, _⟩ | ⟨_, h⟩
      · cases h
      · exact h)
end
mutual
theorem m1_ok : ∀ (a : S) {x : Stmt} {c : Ctx} {Wx : WX} {X : Cx}, FitS c C G n Wx X → m1 a x c = true → PS X x (tSt X.K C Wx (exS G a))
  | .set i e, x, c, Wx, X, F, h => by
    cases x <;> first | exact nomatch (show false = true from h) | skip
    rename_i tgs v pos
    rcases tgs with _ | ⟨tg, _ | ⟨t2, tgs⟩⟩ <;> first | exact nomatch (show false = true from h) | skip
    · cases tg <;> first | exact nomatch (show false = true from h) | skip
      simp only [m1, Bool.and_eq_true, decide_eq_true_eq] at h
      exact PS_imp (ps_nm F (by rw [F.N]; exact h.1.1) h.1.2 h.2) fun D σ H q => tSt_set q
    · cases tg <;> exact nomatch (show false = true from h)
  | .own i e, x, c, Wx, X, F, h => by
    cases x <;> first | exact nomatch (show false = true from h) | skip
    rename_i tgs v pos
    rcases tgs with _ | ⟨tg, _ | ⟨t2, tgs⟩⟩ <;> first | exact nomatch (show false = true from h) | skip
    · cases tg <;> first | exact nomatch (show false = true from h) | skip
      simp only [m1, Bool.and_eq_true, decide_eq_true_eq] at h
      exact PS_imp (ps_nmF F (by rw [F.N]; exact h.1.1.1) h.1.1.2 h.1.2 h.2) fun D σ H q => tSt_own q
    · cases tg <;> exact nomatch (show false = true from h)
  | .tgt t e, x, c, Wx, X, F, h => by
    cases x <;> first | exact nomatch (show false = true from h) | skip
    rename_i tgs v pos
    rcases tgs with _ | ⟨tg, _ | ⟨t2, tgs⟩⟩ <;> first | exact nomatch (show false = true from h) | skip
    simp only [m1, Bool.and_eq_true] at h
    exact ps_tg F h.1.1 h.1.2 h.2
  | .par i j a b, x, c, Wx, X, F, h => by
    cases x <;> first | exact nomatch (show false = true from h) | skip
    rename_i tgs w pos
    simp only [m1] at h
    split at h
    · rename_i x px y py u v e
      obtain ⟨k1, p1, k2, p2, rfl, rfl⟩ := parOf_ok e
      simp only [Bool.and_eq_true, decide_eq_true_eq, Bool.not_eq_true'] at h
      obtain ⟨⟨⟨⟨⟨⟨⟨⟨⟨⟨⟨⟨h1, h2⟩, h3⟩, h4⟩, h5⟩, h6⟩, h7⟩, h8⟩, h9⟩, h10⟩, h11⟩, h12⟩, h13⟩ := h
      have lx := locN_ok F.toFit h4
      have ly := locN_ok F.toFit h5
      exact PS_imp (ps_par F.calm (by rw [F.N]; exact F.nd) (by rw [F.N]; exact h1) (by rw [F.N]; exact h2) h3 lx ly (pa_cons (mE_ok a F.toFit h12).1 (pa_cons (mE_ok b F.toFit h13).1 pa_nil (star_cons h9)) (star_cons h8)) (sw_two F.kd lx ly h6 h7 h8 h9 h10 h11)) fun D σ H q => tSt_par q
    · cases h
  | .par3 i j l a b d, x, c, Wx, X, F, h => by
    cases x <;> first | exact nomatch (show false = true from h) | skip
    rename_i tgs w pos
    simp only [m1] at h
    split at h
    · rename_i x px y py z pz u v w e
      obtain ⟨k1, p1, k2, p2, rfl, rfl⟩ := parOf3_ok e
      simp only [Bool.and_eq_true, decide_eq_true_eq, Bool.not_eq_true'] at h
      obtain ⟨⟨⟨⟨⟨⟨⟨⟨⟨⟨⟨⟨⟨⟨⟨⟨⟨⟨⟨⟨⟨h1, h2⟩, h3⟩, h4⟩, h5⟩, h6⟩, h7⟩, h8⟩, h9⟩, h10⟩, h11⟩, h12⟩, h13⟩, h14⟩, h15⟩, h16⟩, h17⟩, h18⟩, h19⟩, h20⟩, h21⟩, h22⟩ := h
      have lx := locN_ok F.toFit h7
      have ly := locN_ok F.toFit h8
      have lz := locN_ok F.toFit h9
      exact PS_imp (ps_par3 F.calm (by rw [F.N]; exact F.nd) (by rw [F.N]; exact h1) (by rw [F.N]; exact h2) (by rw [F.N]; exact h3) h4 h5 h6 lx ly lz (pa_cons (mE_ok a F.toFit h20).1 (pa_cons (mE_ok b F.toFit h21).1 (pa_cons (mE_ok d F.toFit h22).1 pa_nil (star_cons h17)) (star_cons h16)) (star_cons h15)) (sw_three F.kd lx ly lz h10 h11 h12 h13 h14 h15 h16 h17 h18 h19)) fun D σ H q => tSt_par3 q
    · cases h
  | .aug i op e, x, c, Wx, X, F, h => by
    cases x <;> first | exact nomatch (show false = true from h) | skip
    rename_i tg o v pos
    cases tg <;> first | exact nomatch (show false = true from h) | skip
    simp only [m1, Bool.and_eq_true, Bool.or_eq_true, decide_eq_true_eq] at h
    obtain ⟨⟨⟨⟨rfl, h1⟩, h2⟩, h3⟩, h4⟩ := h
    exact ps_augm F h1 (by rw [F.N]; exact h2) h3 h4
  | .app i e, x, c, Wx, X, F, h => by
    cases x <;> first | exact nomatch (show false = true from h) | skip
    rename_i v pos
    cases v <;> first | exact nomatch (show false = true from h) | skip
    rename_i f as ks cp
    cases f <;> first | exact nomatch (show false = true from h) | skip
    rename_i o nm ap
    cases o <;> first | exact nomatch (show false = true from h) | skip
    rcases as with _ | ⟨y, _ | ⟨z, as⟩⟩ <;> first | exact nomatch (show false = true from h) | skip
    cases ks <;> first | exact nomatch (show false = true from h) | skip
    simp only [m1, Bool.and_eq_true, decide_eq_true_eq] at h
    obtain ⟨⟨⟨⟨⟨⟨h1, h2⟩, h3⟩, h4⟩, h5⟩, h6⟩, h7⟩ := h
    exact ps_apnd F h1 (by rw [F.N]; exact h2) h3 h4 h5 h6 h7
  | .sto i k e, x, c, Wx, X, F, h => by
    cases x <;> first | exact nomatch (show false = true from h) | skip
    rename_i tgs v pos
    rcases tgs with _ | ⟨tg, _ | ⟨t2, tgs⟩⟩ <;> first | exact nomatch (show false = true from h) | skip
    · cases tg <;> first | exact nomatch (show false = true from h) | skip
      rename_i o kx p2
      cases o <;> first | exact nomatch (show false = true from h) | skip
      simp only [m1, Bool.and_eq_true, decide_eq_true_eq] at h
      obtain ⟨⟨⟨⟨⟨h1, h2⟩, h3⟩, h4⟩, h5⟩, h6⟩ := h
      exact ps_stor F (by rw [F.N]; exact h1) h2 h3 h4 h5 h6
    · cases tg <;> first | exact nomatch (show false = true from h) | skip
      rename_i o kx p2
      cases o <;> exact nomatch (show false = true from h)
  | .xpr e, x, c, Wx, X, F, h => by
    cases x <;> first | exact nomatch (show false = true from h) | skip
    simp only [m1, Bool.and_eq_true] at h
    refine PS_imp (ps_expr (mE_ok e F.toFit h.2).1 (by
      have := h.1
      revert this
      intro this
      rename_i v pos
      cases v <;> first | rfl | exact nomatch (show false = true from this))) fun D σ H q => ?_
    obtain ⟨W, fr, st, R, q⟩ := q
    simp only [exS] at q
    exact ⟨W, fr, st, R, (res_post q).imp (fun p st1 h W1 H1 u x o R1 d => h W1 H1 σ (x.toS o) R1) fun _ _ _ z => z⟩
  | .doc, x, c, Wx, X, F, h => by
    cases x <;> first | exact nomatch (show false = true from h) | skip
    · rename_i v pos
      cases v <;> first | exact nomatch (show false = true from h) | skip
      rename_i k kk p
      cases k <;> first | exact nomatch (show false = true from h) | skip
      exact PS_imp ps_doc fun D σ H q => by
        obtain ⟨W, fr, st, R, q⟩ := q
        simp only [exS] at q
        exact q W H σ (ExtS.refl _ _) R
    · exact PS_imp ps_pass fun D σ H q => by
        obtain ⟨W, fr, st, R, q⟩ := q
        simp only [exS] at q
        exact q W H σ (ExtS.refl _ _) R
  | .ret e, x, c, Wx, X, F, h => by
    cases x <;> first | exact nomatch (show false = true from h) | skip
    rename_i v pos
    cases v <;> first | exact nomatch (show false = true from h) | skip
    have h : mE e _ c = true := h
    refine PS_imp (ps_ret (mE_ok e F.toFit h).1) fun D σ H q => ?_
    obtain ⟨W, fr, st, R, q⟩ := q
    simp only [exS] at q
    refine ⟨W, fr, st, R, (res_post q).imp (fun p st1 h W1 H1 u x o R1 d => ?_) fun _ _ _ z => z⟩
    split at h
    · rename_i hk
      exact h W1 H1 u (x.toS o) R1.s (d.den hk)
    · exact h.elim
  | .retN, x, c, Wx, X, F, h => by
    cases x <;> first | exact nomatch (show false = true from h) | skip
    rename_i v pos
    cases v <;> first | exact nomatch (show false = true from h) | skip
    exact PS_imp ps_retN fun D σ H q => by
      obtain ⟨W, fr, st, R, q⟩ := q
      simp only [exS] at q
      exact q W H _ (ExtS.refl _ _) R.s .non
  | .retF e, x, c, Wx, X, F, h => by
    cases x <;> first | exact nomatch (show false = true from h) | skip
    rename_i v pos
    cases v <;> first | exact nomatch (show false = true from h) | skip
    simp only [m1, Bool.and_eq_true] at h
    refine PS_imp (ps_ret (mE_fr F.toFit h.1 h.2)) fun D σ H q => ?_
    obtain ⟨W, fr, st, R, q⟩ := q
    simp only [exS] at q
    refine ⟨W, fr, st, R, (res_post q).imp (fun p st1 h => ⟨fun W1 H1 v hp x o R1 d => ?_, fun W1 H1 a us xs hp x o R1 e d n1 n2 n3 hn => ?_⟩) fun _ _ _ z => z⟩
    · split at h
      · exact absurd rfl (hp _)
      · exact h.elim
    · subst hp
      exact end_retF h x o R1 e d n1 n2 n3 hn
  | .ite d a b, x, c, Wx, X, F, h => by
    cases x <;> first | exact nomatch (show false = true from h) | skip
    simp only [m1, Bool.and_eq_true] at h
    obtain ⟨⟨h1, h2⟩, h3⟩ := h
    refine PS_imp (ps_if (mE_ok d F.toFit h1).2 (mB_ok a F h2) (mB_ok b F h3)) fun D σ H q => ?_
    obtain ⟨W, fr, st, R, q⟩ := q
    simp only [exS] at q
    refine ⟨W, fr, st, R, (res_post q).imp (fun k st1 h W1 H1 x o R1 => ?_) fun _ _ _ z => z⟩
    cases k
    · simp only [Bool.false_eq_true, if_false] at h ⊢
      exact ⟨W1, fr, st1, R1, ResP.shift h (x.toS o)⟩
    · simp only [if_true] at h ⊢
      exact ⟨W1, fr, st1, R1, ResP.shift h (x.toS o)⟩
  | .for t it b, x, c, Wx, X, F, h => by
    cases x <;> first | exact nomatch (show false = true from h) | skip
    rename_i tg i body oe pos
    cases oe <;> first | exact nomatch (show false = true from h) | skip
    simp only [m1, Bool.and_eq_true] at h
    obtain ⟨⟨⟨h1, h2⟩, h3⟩, h4⟩ := h
    refine PS_imp (ps_for F.po F.calm (mI_ok it F.toFit h3) (F.pt h1) (mB_ok b F h4) (noSet_f h2 _)) fun D σ H q => ?_
    obtain ⟨W, fr, st, R, q⟩ := q
    simp only [exS] at q
    refine ⟨W, fr, st, R, (res_post q).imp (fun xs st1 h W1 H1 J x o R1 wk => ?_) fun _ _ _ z => z⟩
    exact for_loop R1 wk (ResP.shift h (x.toS o))
  | .whl d b, x, c, Wx, X, F, h => by
    cases x <;> first | exact nomatch (show false = true from h) | skip
    rename_i v body oe pos
    cases oe <;> first | exact nomatch (show false = true from h) | skip
    simp only [m1, Bool.and_eq_true] at h
    refine PS_imp (ps_while F.po (mE_ok d F.toFit h.1).2 (mB_ok b F h.2)) fun D σ H q => ?_
    exact whl_loop (by
      obtain ⟨W, fr, st, R, q⟩ := q
      simp only [exS] at q
      exact ⟨W, fr, st, R, q⟩)
  | .brk, x, c, Wx, X, F, h => by
    cases x <;> first | exact nomatch (show false = true from h) | skip
    exact PS_imp ps_break fun D σ H q => by
      obtain ⟨W, fr, st, R, q⟩ := q
      simp only [exS] at q
      exact q W H σ (ExtS.refl _ _) R
  | .cnt, x, c, Wx, X, F, h => by
    cases x <;> first | exact nomatch (show false = true from h) | skip
    exact PS_imp ps_continue fun D σ H q => by
      obtain ⟨W, fr, st, R, q⟩ := q
      simp only [exS] at q
      exact q W H σ (ExtS.refl _ _) R
  | .rse k l, x, c, Wx, X, F, h => by
    cases x <;> first | exact nomatch (show false = true from h) | skip
    rename_i v ca pos
    cases v <;> first | exact nomatch (show false = true from h) | skip
    rename_i v
    cases v <;> first | exact nomatch (show false = true from h) | skip
    rename_i f as ks cp
    cases f <;> first | exact nomatch (show false = true from h) | skip
    rename_i x px
    cases ks <;> first | exact nomatch (show false = true from h) | skip
    cases ca <;> first | exact nomatch (show false = true from h) | skip
    simp only [m1, Bool.and_eq_true, decide_eq_true_eq] at h
    obtain ⟨⟨⟨⟨⟨h1, h2⟩, h3⟩, h4⟩, h5⟩, h6⟩ := h
    have g := F.gl h1
    obtain ⟨_, ⟨_, _, _, _, f1, f2⟩, kp, sb, ty⟩ := F.G.rai k h3
    cases as with
    | nil => cases h4
    | cons e es =>
      have ns : noStar e = true ∧ es.all noStar = true := by simpa using h5
      refine PS_imp (ps_raise F.calm F.tk (pmk_ownA f1 f2 (F.G.cls k x h2).1 kp (raises_own sb ty) g.1 (mL_ok l F.toFit h6) g.2.1 (star_cons ns.1) (star_any ns.2))) fun D σ H q => ?_
      obtain ⟨W, fr, st, R, q⟩ := q
      simp only [exS] at q
      refine ⟨W, fr, st, R, (res_post q).imp (fun ps st1 h W1 H1 vs x o R1 d => ?_) fun _ _ _ z => z⟩
      split at h
      · rename_i hk
        have hl : vs.length = ps.length := Paired.length d
        exact ⟨by rw [hl]; exact fits_iff.mp hk, h W1 H1 σ _ _ (x.toS o) R1 ⟨rfl, rfl, rfl⟩⟩
      · exact h.elim
  | .try b k i j, x, c, Wx, X, F, h => by
    cases x <;> first | exact nomatch (show false = true from h) | skip
    rename_i body hs oe fb pos
    simp only [m1, Bool.and_eq_true] at h
    obtain ⟨hB, h⟩ := h
    split at h
    · rename_i cn nn m n2 e
      obtain ⟨q1, q2, q3, q4, p, rfl, rfl, rfl⟩ := tryOf_ok e
      simp only [Bool.and_eq_true, decide_eq_true_eq] at h
      obtain ⟨⟨⟨⟨⟨⟨⟨⟨rfl, h1⟩, h2⟩, h3⟩, h4⟩, h5⟩, h6⟩, h7⟩, h8⟩ := h
      have g := F.gl h7
      have pl := plainN_ok h6
      have hcl := F.G.cls k cn h8
      have hk : k < c.T.cl.length := (List.getElem?_eq_some_iff.mp h8).1
      refine PS_imp (ps_caught (c := .ref (C k)) (tb := fun W => tSt X.K C W (exS G b)) F.hs F.hf F.hex (by rw [F.N]; exact F.nd) (by rw [F.N]; exact h1) (by rw [F.N]; exact h2) h3 (locN_ok F.toFit h4) (locN_ok F.toFit h5) pl.1 pl.2.1 ⟨g.1, g.2.1, .inl hcl.1⟩ F.tk
        fun W pn xe tk po => mB_ok b (F.tr tk po) hB) fun D σ H q => ?_
      obtain ⟨W, fr, st, R, q⟩ := q
      simp only [exS] at q
      refine ⟨W, fr, st, R, ?_⟩
      cases hb : exS G b fr st with
      | nx fr1 st1 =>
        rw [hb] at q
        exact q
      | rt p st1 =>
        rw [hb] at q
        exact q
      | bk fr1 st1 =>
        rw [hb] at q
        exact q
      | ct fr1 st1 =>
        rw [hb] at q
        exact q
      | bad =>
        rw [hb] at q
        exact q
      | ex k2 p2 fr1 st1 =>
        rw [hb] at q
        intro W' H' σ' cls d x' R' ev
        obtain ⟨rfl, rfl, rfl⟩ := ev
        unfold tryF at q
        dsimp only at q
        split at q
        · rename_i l hl
          have hk2 : k2 < c.T.cl.length := by
            rw [← F.G.ancl]
            exact (List.getElem?_eq_some_iff.mp hl).1
          obtain ⟨_, l2, e2, ok2⟩ := F.G.cls k2 c.T.cl[k2] (by simp [hk2])
          rw [hl] at e2
          cases e2
          refine ⟨_, ok2.exm k hk, fun hc a ha => ?_, fun hc => ?_⟩
          · rw [if_pos hc] at q
            split at q
            · rename_i hj
              have z2 : Sz (upd H' a (.ext (excP a (.ref (C k2)) none))) := R'.s.sz.tag
              have R2 := R'.new (u := .ext (excP a (.ref (C k2)) none)) ha z2
              have hj1 : j < fr1.length := hj.1
              have R3 := R2.setv (i := j) (v := .ref a) (p := .exc k2 .non) (.exc upd_same) hj1
              have R4 := (R3.slots.drop (i := i)).rel R3.s
              exact q _ _ _ (((x'.trans ((Ext.new ha).toS rfl)).trans onlyS).trans onlyS) R4
            · exact q.elim
          · rw [if_neg (by rw [hc]; exact Bool.false_ne_true)] at q
            exact q W' H' σ' _ _ x' R' ⟨rfl, rfl, rfl⟩
        · exact q.elim
    · cases h
  | .ins i k e, x, c, Wx, X, F, h => by
    cases x <;> first | exact nomatch (show false = true from h) | skip
    rename_i v pos
    cases v <;> first | exact nomatch (show false = true from h) | skip
    rename_i f as ks cp
    cases f <;> first | exact nomatch (show false = true from h) | skip
    rename_i o nm ap
    cases o <;> first | exact nomatch (show false = true from h) | skip
    rename_i x px
    rcases as with _ | ⟨y, _ | ⟨v, _ | ⟨v2, as⟩⟩⟩ <;> first | exact nomatch (show false = true from h) | skip
    cases ks <;> first | exact nomatch (show false = true from h) | skip
    simp only [m1, Bool.and_eq_true, decide_eq_true_eq] at h
    obtain ⟨⟨⟨⟨⟨⟨⟨⟨rfl, h1⟩, h2⟩, h3⟩, h4⟩, h5⟩, h6⟩, h7⟩, h8⟩ := h
    exact ps_inst F rfl (by rw [F.N]; exact h1) h2 h3 h4 h5 h6 h7 h8
  | .swp i a b v, x, c, Wx, X, F, h => by
    cases x <;> first | exact nomatch (show false = true from h) | skip
    rename_i tgs w pos
    rcases tgs with _ | ⟨tg, tgs⟩ <;> first | exact nomatch (show false = true from h) | skip
    cases tg <;> first | exact nomatch (show false = true from h) | skip
    rename_i ts kk tp
    rcases ts with _ | ⟨t1, ts⟩ <;> first | exact nomatch (show false = true from h) | skip
    cases t1 <;> first | exact nomatch (show false = true from h) | skip
    rename_i o1 ax p1
    cases o1 <;> first | exact nomatch (show false = true from h) | skip
    rename_i x px
    rcases ts with _ | ⟨t2, ts⟩ <;> first | exact nomatch (show false = true from h) | skip
    cases t2 <;> first | exact nomatch (show false = true from h) | skip
    rename_i o2 bx p2
    cases o2 <;> first | exact nomatch (show false = true from h) | skip
    rename_i y py
    cases ts <;> first | exact nomatch (show false = true from h) | skip
    cases tgs <;> first | exact nomatch (show false = true from h) | skip
    simp only [m1, Bool.and_eq_true, decide_eq_true_eq] at h
    obtain ⟨⟨⟨⟨⟨⟨⟨⟨h1, rfl⟩, h2⟩, h3⟩, h4⟩, h5⟩, h6⟩, h7⟩, h8⟩ := h
    exact ps_swap F (by rw [F.N]; exact h1) h2 h3 h4 h5 h6 h7 h8
  | .nop, x, c, Wx, X, F, h => nomatch (show false = true from h)
  | .seq _ _, x, c, Wx, X, F, h => nomatch (show false = true from h)
  | .frz _ _, x, c, Wx, X, F, h => nomatch (show false = true from h)
theorem mB_ok : ∀ (a : S) {xs : List Stmt} {c : Ctx} {Wx : WX} {X : Cx}, FitS c C G n Wx X → mB a xs c = true → PSs X xs (tSt X.K C Wx (exS G a))
  | .nop, xs, c, Wx, X, F, h => by
    cases xs <;> first | exact nomatch (show false = true from h) | skip
    exact PSs_imp pss_nil fun D σ H q => by
      obtain ⟨W, fr, st, R, q⟩ := q
      simp only [exS] at q
      exact q W H σ (ExtS.refl _ _) R
  | .seq a b, xs, c, Wx, X, F, h => by
    cases xs <;> first | exact nomatch (show false = true from h) | skip
    simp only [mB, Bool.and_eq_true] at h
    refine PSs_imp (pss_cons (m1_ok a F h.1) (mB_ok b F h.2)) fun D σ H q => ?_
    obtain ⟨W, fr, st, R, q⟩ := q
    simp only [exS] at q
    refine ⟨W, fr, st, R, ?_⟩
    cases ha : exS G a fr st with
    | nx fr1 st1 =>
      rw [ha] at q
      exact fun W' H' σ' x R' => ⟨W', fr1, st1, R', ResP.shift q x⟩
    | rt p st1 =>
      rw [ha] at q
      exact q
    | bk fr1 st1 =>
      rw [ha] at q
      exact q
    | ct fr1 st1 =>
      rw [ha] at q
      exact q
    | ex k p fr1 st1 =>
      rw [ha] at q
      exact q
    | bad =>
      rw [ha] at q
      exact q
  | .frz i b, xs, c, Wx, X, F, h => by
    have h : mB b xs c = true := h
    refine PSs_imp (mB_ok b F h) fun D σ H q => ?_
    obtain ⟨W, fr, st, R, q⟩ := q
    simp only [exS] at q
    unfold frzF at q
    split at q
    · rename_i ys e
      obtain ⟨W', x, R'⟩ := R.frz e
      exact ⟨W', _, st, R', ResP.shift q x⟩
    · exact q.elim
  | .set _ _, xs, c, Wx, X, F, h => nomatch (show false = true from h)
  | .ins _ _ _, xs, c, Wx, X, F, h => nomatch (show false = true from h)
  | .swp _ _ _ _, xs, c, Wx, X, F, h => nomatch (show false = true from h)
  | .own _ _, xs, c, Wx, X, F, h => nomatch (show false = true from h)
  | .tgt _ _, xs, c, Wx, X, F, h => nomatch (show false = true from h)
  | .par _ _ _ _, xs, c, Wx, X, F, h => nomatch (show false = true from h)
  | .par3 _ _ _ _ _ _, xs, c, Wx, X, F, h => nomatch (show false = true from h)
  | .aug _ _ _, xs, c, Wx, X, F, h => nomatch (show false = true from h)
  | .app _ _, xs, c, Wx, X, F, h => nomatch (show false = true from h)
  | .sto _ _ _, xs, c, Wx, X, F, h => nomatch (show false = true from h)
  | .xpr _, xs, c, Wx, X, F, h => nomatch (show false = true from h)
  | .doc, xs, c, Wx, X, F, h => nomatch (show false = true from h)
  | .ret _, xs, c, Wx, X, F, h => nomatch (show false = true from h)
  | .retN, xs, c, Wx, X, F, h => nomatch (show false = true from h)
  | .retF _, xs, c, Wx, X, F, h => nomatch (show false = true from h)
  | .ite _ _ _, xs, c, Wx, X, F, h => nomatch (show false = true from h)
  | .for _ _ _, xs, c, Wx, X, F, h => nomatch (show false = true from h)
  | .whl _ _, xs, c, Wx, X, F, h => nomatch (show false = true from h)
  | .brk, xs, c, Wx, X, F, h => nomatch (show false = true from h)
  | .cnt, xs, c, Wx, X, F, h => nomatch (show false = true from h)
  | .rse _ _, xs, c, Wx, X, F, h => nomatch (show false = true from h)
  | .try _ _ _ _, xs, c, Wx, X, F, h => nomatch (show false = true from h)
end
end
end Rm
set_option Elab.async false
set_option linter.all false
set_option maxHeartbeats 8000000
/-! Defs: a table of bodies; each keeps its promise. -/
namespace Rm
open PySem PySem.Spec L2

/-- a def: its name, how many parameters by place, the others' names, its slots' names (parameters first), its body -/
structure Fn where
  nm : Str
  np : Nat
  ks : List Str
  N : List Str
  body : S
  /-- values of the parameters that a call of this shape leaves out -/
  df : List PV := []
def Fn.m (F : Fn) : Nat := F.np + F.ks.length + F.df.length
def startF (N : List Str) (ps : List PV) : Frm := ps.map (fun p => some (.val p)) ++ List.replicate (N.length - ps.length) none
def outR : Res → Out PV
  | .nx _ st => .ok .non st
  | .rt p st => .ok p st
  | .ex c p _ st => .exc c p st
  | _ => .bad
def runFn (G : Sig) (F : Fn) (ps : List PV) (st : Sto) : Out PV := if ps.length = F.np + F.ks.length then outR (exS G F.body (startF F.N (ps ++ F.df)) st) else .bad
/-- n calls deep -/
def sigAt (fs : List Fn) (gl : List PV) (anc : List (List Nat)) (fuel : Nat) : Nat → Sig
  | 0 => ⟨fun _ _ _ => .bad, gl, anc, fuel, 0⟩
  | n + 1 => ⟨fun j ps st => match fs[j]? with
      | some F => runFn (sigAt fs gl anc fuel n) F ps st
      | none => .bad, gl, anc, fuel, 0⟩

/-- a def of the text, as it stands behind the top -/
structure FnAt (T : Gtab) (K : PySem.W.Frag) (mg : Str → Option Value) (F : Fn) (st : Stmt) : Prop where
  ex : ∃ (f : Addr) (oc : Value) (od : Option Addr) (dV kV doc pm : Value) (an : Option Addr) (cdv ct : Value) (osl : Array (Option Value)) (ds : List V) (dvs : List Value),
    K.lookup f = some ⟨oc, od, .func (PySem.W.fnOf F.nm F.nm (defArgs st) (defBody st) (defScope st) dV kV doc pm an cdv ct), osl⟩ ∧ PySem.W.codeIn K cdv F.nm = true ∧ PySem.W.keepIn K (.ref f) = true ∧ mg F.nm = some (.ref f) ∧
    Vals ds dvs ∧ (∀ C W H, Dens K C W H ds F.df) ∧
    ∀ (s : Shared) (us ws : List Value), K.In s.heap → us.length = F.np → ws.length = F.ks.length → BindsTo s (PySem.W.fnOf F.nm F.nm (defArgs st) (defBody st) (defScope st) dV kV doc pm an cdv ct) ⟨us, F.ks.zip ws⟩ ((F.N.take F.m).zip (us ++ ws ++ dvs))
def ctxOf (T : Gtab) (F : Fn) (st : Stmt) : Ctx := ⟨T, F.N, defScope st, fun _ => true⟩
/-- the look at a def's names -/
def scK (N ps : List Str) (sc : Scope) : Bool := decide (sc.kind = .function) && (!sc.isCoroutine && !sc.isGenerator) && decide N.Nodup && decide (N.take ps.length = ps) &&
  (ps.all fun x => decide (sc.names.lookup x = some .local) || decide (sc.names.lookup x = some .cell)) && sc.names.all fun y => decide (y.2 ≠ .free)
theorem scK_ok {N ps : List Str} {sc : Scope} (h : scK N ps sc = true) : FnScope N ps sc := by
  unfold scK at h
  simp only [Bool.and_eq_true, Bool.not_eq_true', decide_eq_true_eq, List.all_eq_true, Bool.or_eq_true] at h
  obtain ⟨⟨⟨⟨⟨a, b⟩, c⟩, d⟩, e⟩, f⟩ := h
  exact ⟨a, b.1, b.2, c, d, e, f⟩
/-- the look at a def -/
def fnC (T : Gtab) (F : Fn) (st : Stmt) : Bool := scK F.N (F.N.take F.m) (defScope st) && decide (F.m ≤ F.N.length) && mB F.body (defBody st) (ctxOf T F st)

theorem ExtS.bare {W W' : Wd} {H H' : Hp} (x : ExtS W H W' H') (h : W.o = fun _ => none) : Ext W H (W'.withO fun _ => none) H' where
  kp := fun b u e n => x.kp b u e n fun i z => by rw [h] at z; cases z
  th := x.th
  F := x.F
  Fn := fun a f => by
    rcases x.Fn a f with z | ⟨i, z⟩ | z
    · exact .inl z
    · rw [h] at z
      cases z
    · exact .inr z
  r := x.r
  rn := fun m a f => by
    rcases x.rn m a f with z | ⟨i, z⟩ | z
    · exact .inl z
    · rw [h] at z
      cases z
    · exact .inr z
section
variable {K : PySem.W.Frag} {C : Nat → Addr} {W : Wd} {H : Hp} {st : Sto}
theorem Rel.entry {N : List Str} {vs : List V} {ps : List PV} (R : RelS K C W H st) (h : W.o = fun _ => none) (d : Dens K C W H vs ps) (hl : ps.length ≤ N.length) : Rel K C W H (L2.start N vs) (startF N ps) st where
  s := R
  len := by
    have := d.len
    unfold startF L2.start
    rw [List.length_append, List.length_append, List.length_map, List.length_map, List.length_replicate, List.length_replicate, this]
  slt := fun i p e => by
    unfold startF at e
    by_cases hi : i < ps.length
    · rw [List.getElem?_append_left (by rw [List.length_map]; exact hi), List.getElem?_map, List.getElem?_eq_getElem hi] at e
      simp only [Option.map_some, Option.some.injEq, FV.val.injEq] at e
      obtain ⟨v, h1, h2⟩ := d.get (i := i) (p := ps[i]) (List.getElem?_eq_getElem hi)
      rw [e] at h2
      refine ⟨v, ?_, h2⟩
      unfold L2.start
      have hv : i < vs.length := by rw [d.len]; exact hi
      rw [List.getElem?_append_left (by rw [List.length_map]; exact hv), List.getElem?_map, h1]
      rfl
    · rw [List.getElem?_append_right (by rw [List.length_map]; omega), List.getElem?_replicate] at e
      split at e <;> cases e
  own := fun i xs e => by
    unfold startF at e
    by_cases hi : i < ps.length
    · rw [List.getElem?_append_left (by rw [List.length_map]; exact hi), List.getElem?_map, List.getElem?_eq_getElem hi] at e
      cases e
    · rw [List.getElem?_append_right (by rw [List.length_map]; omega), List.getElem?_replicate] at e
      split at e <;> cases e
  on := fun i a e => by
    rw [h] at e
    cases e
end
section
variable {P : Program} {w : World} {K : PySem.W.Frag} {mg : Str → Option Value} {base : Heap} {C : Nat → Addr} {T : Gtab}
/-- a def's promise, by its body -/
theorem call_of {G : Sig} {n : Nat} {F : Fn} {x : Stmt} (A : FnAt T K mg F x) (hC : fnC T F x = true) (hG : Glob T C G n P w K mg base) : ∃ f, mg F.nm = some (.ref f) ∧ PySem.W.keepIn K (.ref f) = true ∧ CallOk P w K mg base (n + 1) F.np F.ks f (spF K C (runFn G F)) := by
  obtain ⟨f, oc, od, dV, kV, doc, pm, an, cdv, ct, osl, ds, dvs, lk, hcd, kp, gm, rds, dds, bnd⟩ := A.ex
  refine ⟨f, gm, kp, ?_⟩
  unfold fnC at hC
  simp only [Bool.and_eq_true, decide_eq_true_eq] at hC
  obtain ⟨⟨c1, c2⟩, c3⟩ := hC
  have S := scK_ok c1
  intro A outer s H us ws vs Q E hr hgd e0 h1 h2 rv hsp
  obtain ⟨W, st, ps, RS, Wo, D, hp⟩ := hsp
  unfold runFn at hp
  split at hp
  · rename_i hlen
    have hvl : vs.length = ps.length := D.len
    have hdl : ds.length = F.df.length := (dds C W H).len
    have hl : (vs ++ ds).length = (F.N.take F.m).length := by
      rw [List.length_append, hvl, hlen, hdl, List.length_take, Nat.min_eq_left c2]
      rfl
    have KX : K.In s.heap := e0.mod.kin.keeps fun b o e => (e0.bs b o e).1
    have lim : s.heap.NoLimit := e0.mod.nolimit.keeps fun b o e => (e0.bs b o e).1
    have par : ∀ y ∈ (F.N.take F.m).zip (us ++ ws ++ dvs), (defScope x).names.lookup y.1 = some .local ∨ ((defScope x).names.lookup y.1 = some .cell ∧ ((cellsFrom (s.heap.objs.size + 1) (defScope x).names []).lookup y.1).isSome = true) := fun ⟨z, v⟩ hy => by
      rcases S.par z (List.of_mem_zip hy).1 with q | q
      · exact .inl q
      · exact .inr ⟨q, PySem.W.cellsFrom_some _ _ _ (.inl q)⟩
    have bto : BindsTo s (PySem.W.fnOf F.nm F.nm (defArgs x) (defBody x) (defScope x) dV kV doc pm an cdv ct) ⟨us, F.ks.zip ws⟩ ((F.N.take F.m).zip (us ++ ws ++ dvs)) := bnd s us ws KX h1 h2
    refine codeAny_call_function hr.depth (KX _ _ lk) rfl S.co S.gen rfl (PySem.W.codeRec_of KX hcd) (bto _ _ _ _ (wpAny_newFunctionEnv_cells S.kind par fun env he s1 xx => ?_))
    subst he
    refine ⟨lim.keeps xx.toInCall.keep, codeAny_func ?_⟩
    have I := inv_start (CX := L2.CX P w) (P := P) (w := w) (K := K) (mg := mg) (base := base) (qual := F.nm) (f := f) (cd := cdv) (E := E) S hr.hd e0 hl (rv.append rds) xx
    have FS : FitS (ctxOf T F x) C G n (fun cls d _ H => E cls d H) (cxOf (L2.CX P w) P w K mg base F.N F.nm (defScope x) f cdv A outer s H E) := {
      N := rfl
      sc := rfl
      fn := fun _ _ => rfl
      calm := rfl
      nd := S.nd
      tk := takes_of rfl rfl rfl rfl
      gd := hgd
      rm := hr.deeper _
      G := hG
      po := passes_of rfl
      hs := rfl
      hf := rfl
      hex := rfl
      kd := S.kind }
    refine wpAny_mono ((mB_ok F.body FS c3).run [] s1 (L2.start F.N (vs ++ ds)) H { nx := fun _ H' => Q .non H', rt := Q } I ⟨W, startF F.N (ps ++ F.df), st, Rel.entry RS Wo (D.app (dds C W H)) (by rw [List.length_append, hlen]; exact c2), ?_⟩) (fun fl t hs => ?_) fun e t hs => hs
    · have hp : Post (outR (exS G F.body (startF F.N (ps ++ F.df)) st)) _ _ := hp
      show ResP K C _ W H _ (exS G F.body (startF F.N (ps ++ F.df)) st)
      cases hb : exS G F.body (startF F.N (ps ++ F.df)) st with
      | nx fr1 st1 =>
        rw [hb] at hp
        exact fun W' H' σ' x R => hp _ H' .non (x.bare Wo) rfl R.s.bare .non
      | rt p st1 =>
        rw [hb] at hp
        exact fun W' H' v x R d => hp _ H' v (x.bare Wo) rfl R.bare d.withO
      | ex c p fr1 st1 =>
        rw [hb] at hp
        exact fun W' H' σ' cls d x R e => hp _ H' cls d (x.bare Wo) rfl R.s.bare e
      | bk fr1 st1 =>
        rw [hb] at hp
        exact hp.elim
      | ct fr1 st1 =>
        rw [hb] at hp
        exact hp.elim
      | bad =>
        rw [hb] at hp
        exact hp.elim
    · have fin : ∀ {σ' : St} {H' : Hp} {v : V} {u : Value}, Inv (cxOf (L2.CX P w) P w K mg base F.N F.nm (defScope x) f cdv A outer s H E) [] σ' H' t → RelV v u → Q v H' → CE outer P w H s Q u t := fun {σ' H' v u} J r q => ⟨v, H', J.os, J.bare, J.base, J.hok, r, q⟩
      cases fl with
      | ret u =>
        obtain ⟨v, _, H', J, r, q⟩ := hs
        exact fin J r q
      | next =>
        obtain ⟨_, H', J, q⟩ := hs
        exact fin (v := V.non) (u := Value.none) J rfl q
      | brk =>
        obtain ⟨_, _, _, q⟩ := hs
        exact False.elim q
      | cont =>
        obtain ⟨_, _, _, q⟩ := hs
        exact False.elim q
  · exact hp.elim
/-- what stands still -/
structure Still (T : Gtab) (C : Nat → Addr) (fs : List Fn) (gl : List PV) (anc : List (List Nat)) (K : PySem.W.Frag) (mg : Str → Option Value) : Prop where
  tf : T.fs = fs.map fun F => (F.nm, F.np, F.ks)
  fns : ∀ (j : Nat) (F : Fn), fs[j]? = some F → ∃ x, FnAt T K mg F x ∧ fnC T F x = true
  blt : ∀ x ∈ bltNames, mg x = none
  gls : ∀ (k : Nat) (nm : Str) (p : PV), T.gl[k]? = some (nm, p) → gl[k]? = some p ∧ ∃ u v, mg nm = some u ∧ RelV v u ∧ ∀ W H, Den K C W H v p
  cls : ∀ (c : Nat) (nm : Str), T.cl[c]? = some nm → mg nm = some (.ref (C c)) ∧ ∃ l, anc[c]? = some l ∧ ClsOk K C c l T.cl.length
  ancl : anc.length = T.cl.length
  noM : T.ms = [] ∧ T.oc = []
  rai : ∀ c, c ∈ T.rs → c < T.cl.length ∧ RaiseOk K (C c)
theorem glob_of {fs : List Fn} {gl : List PV} {anc : List (List Nat)} {fuel : Nat} (S : Still T C fs gl anc K mg) : ∀ n, Glob T C (sigAt fs gl anc fuel n) n P w K mg base
  | 0 => ⟨fun j nm np ks e _ => by
      rw [S.tf, List.getElem?_map] at e
      cases hj : fs[j]? with
      | none => rw [hj] at e; cases e
      | some F =>
        rw [hj] at e
        cases e
        obtain ⟨x, A, _⟩ := S.fns j F hj
        obtain ⟨f, oc, od, dV, kV, doc, pm, an, cdv, ct, osl, ds, dvs, lk, hcd, kp, gm, rds, dds, bnd⟩ := A.ex
        refine ⟨f, gm, kp, fun A outer s H us ws vs Q E _ _ _ _ _ _ hsp => ?_⟩
        obtain ⟨W, st, ps, _, _, _, hp⟩ := hsp
        exact hp.elim, S.blt, S.gls, S.cls, S.ancl, by rw [S.noM.2]; rfl, (fun j c m h => by rw [S.noM.1] at h; cases h), (fun c nm h => by rw [S.noM.2] at h; cases h), S.rai⟩
  | n + 1 => ⟨fun j nm np ks e _ => by
      rw [S.tf, List.getElem?_map] at e
      cases hj : fs[j]? with
      | none => rw [hj] at e; cases e
      | some F =>
        rw [hj] at e
        cases e
        obtain ⟨x, A, hC⟩ := S.fns j F hj
        obtain ⟨f, h1, h2, h3⟩ := call_of A hC (glob_of (fuel := fuel) S n)
        refine ⟨f, h1, h2, ?_⟩
        have : (sigAt fs gl anc fuel (n + 1)).call j = runFn (sigAt fs gl anc fuel n) F := by
          funext ps st
          show (match fs[j]? with | some F => runFn (sigAt fs gl anc fuel n) F ps st | none => .bad) = _
          rw [hj]
        rw [this]
        exact h3, S.blt, S.gls, S.cls, S.ancl, by rw [S.noM.2]; rfl, (fun j c m h => by rw [S.noM.1] at h; cases h), (fun c nm h => by rw [S.noM.2] at h; cases h), S.rai⟩
end
end Rm
set_option Elab.async false
set_option linter.all false
set_option maxHeartbeats 8000000
/-! What stands behind the top: classes, constants, defs; the law's own call. -/
namespace Rm
open PySem PySem.Spec L2 PySem.W

def adr (K : Frag) (nm : Str) : Addr := match nsIn K mainGlobals nm with
  | some (some (.ref a)) => a
  | _ => 0
def kindsB : List String := ["NoneType", "bool", "int", "str", "list", "tuple"]
def kindsC : List String := ["bool", "int", "str", "list", "tuple"]
def chainV : List Value := [.type "ValueError", .type "Exception", .type "BaseException", .type "object"]
def excB (K : Frag) (D : Addr) : Bool :=
  decide (findIn K (.ref D) "__getattribute__" = some (some (.builtin "BaseException.__getattribute__"))) && decide (findIn K (.ref D) "__getattr__" = some none) && decide (subIn K (.ref D) (.type "BaseException") = some true) && hasDictIn K D &&
  decide (findIn K (.ref D) "__class__" = some (some (.builtin "object.__class__"))) && decide (specialIn K (.builtin "object.__class__") "__get__" = some (some (.builtin "getset_descriptor.__get__"))) && decide (takesIn K (.builtin "object.__class__") = some true) && decide (mroIn K D (.type "object") = some true)
def oneB (K : Frag) (cl : List Str) (nm : Str) (l : List Nat) : Bool :=
  decide (nsIn K mainGlobals nm = some (some (.ref (adr K nm)))) && excB K (adr K nm) && (kindsB.all fun T => decide (kitOne K (.type T) (.ref (adr K nm)) = some false)) && (kindsC.all fun T => decide (kitOne K (.ref (adr K nm)) (.type T) = some false)) && decide (kitOne K (.ref (adr K nm)) (.type "ValueError") = some true) &&
  (List.range cl.length).all fun d => decide (kitOne K (.ref (adr K nm)) (.ref (adr K (cl.getD d ""))) = some (l.contains d)) && decide (exmOne K (.ref (adr K nm)) (.ref (adr K (cl.getD d ""))) = some (l.contains d))
def raiB (K : Frag) (nm : Str) : Bool := excIn K (adr K nm) chainV "ValueError.__new__" && keepIn K (.ref (adr K nm)) && decide (subIn K (.ref (adr K nm)) (.type "BaseException") = some true) && decide (typeIn K (.ref (adr K nm)) = some (.type "type"))
/-- the look at the classes -/
def clsB (K : Frag) (cl : List Str) (anc : List (List Nat)) (rs : List Nat) : Bool :=
  decide (anc.length = cl.length) && ((List.range cl.length).all fun c => oneB K cl (cl.getD c "") (anc.getD c [])) && rs.all fun c => decide (c < cl.length) && raiB K (cl.getD c "")
def bltB (K : Frag) : Bool := bltNames.all fun x => decide (nsIn K mainGlobals x = some none)
def glB (K : Frag) (gl : List (Str × PV)) : Bool := gl.all fun g => match g.2, nsIn K mainGlobals g.1 with
  | .int i, some (some (.int j _)) => decide (i = j)
  | _, _ => false
def clsAt (K : Frag) (cl : List Str) : Nat → Addr := fun c => adr K (cl.getD c "")

section
variable {K : Frag} {h : Heap} {mg : Str → Option Value}
theorem excB_ok {D : Addr} (e : excB K D = true) : ExcC K D := by
  unfold excB at e
  simp only [Bool.and_eq_true, decide_eq_true_eq] at e
  obtain ⟨⟨⟨⟨⟨⟨⟨a, b⟩, c⟩, d⟩, e1⟩, f⟩, g⟩, i⟩ := e
  exact ⟨a, b, c, d, e1, f, g, i⟩
theorem oneB_ok {cl : List Str} {c : Nat} {l : List Nat} (e : oneB K cl (cl.getD c "") l = true) : nsIn K mainGlobals (cl.getD c "") = some (some (.ref (clsAt K cl c))) ∧ ClsOk K (clsAt K cl) c l cl.length := by
  unfold oneB at e
  simp only [Bool.and_eq_true, decide_eq_true_eq, List.all_eq_true, List.mem_range] at e
  obtain ⟨⟨⟨⟨⟨a, b⟩, c1⟩, d⟩, v⟩, f⟩ := e
  exact ⟨a, excB_ok b, c1, fun x hx => (f x hx).1, fun x hx => (f x hx).2, d, v⟩
theorem clsB_ok {cl : List Str} {anc : List (List Nat)} {rs : List Nat} (X : K.In h) (G : h.Ns mainGlobals mg) (e : clsB K cl anc rs = true) :
    (∀ (c : Nat) (nm : Str), cl[c]? = some nm → mg nm = some (.ref (clsAt K cl c)) ∧ ∃ l, anc[c]? = some l ∧ ClsOk K (clsAt K cl) c l cl.length) ∧ anc.length = cl.length ∧ ∀ c, c ∈ rs → c < cl.length ∧ RaiseOk K (clsAt K cl c) := by
  unfold clsB at e
  simp only [Bool.and_eq_true, decide_eq_true_eq, List.all_eq_true, List.mem_range] at e
  obtain ⟨⟨a, b⟩, c⟩ := e
  refine ⟨fun k nm q => ?_, a, fun k hk => ?_⟩
  · obtain ⟨hk, rfl⟩ := List.getElem?_eq_some_iff.mp q
    have z := oneB_ok (b k hk)
    have e1 : cl.getD k "" = cl[k] := by simp [hk]
    have e2 : anc[k]? = some (anc.getD k []) := by simp [a, hk]
    rw [e1] at z
    exact ⟨mg_of X G z.1, _, e2, z.2⟩
  · obtain ⟨h1, h2⟩ := c k hk
    unfold raiB at h2
    simp only [Bool.and_eq_true, decide_eq_true_eq] at h2
    obtain ⟨⟨⟨r1, r2⟩, r3⟩, r4⟩ := h2
    exact ⟨h1, ⟨⟨_, _, _, _, PySem.F.excBase_ValueError, r1⟩, r2, r3, r4⟩⟩
theorem bltB_ok (X : K.In h) (G : h.Ns mainGlobals mg) (e : bltB K = true) : ∀ x ∈ bltNames, mg x = none := fun x hx => by
  unfold bltB at e
  have := List.all_eq_true.mp e x hx
  exact mg_none_of X G (of_decide_eq_true this)
theorem glB_ok {C : Nat → Addr} {gl : List (Str × PV)} (X : K.In h) (G : h.Ns mainGlobals mg) (e : glB K gl = true) : ∀ (k : Nat) (nm : Str) (p : PV), gl[k]? = some (nm, p) → (gl.map (·.2))[k]? = some p ∧ ∃ u v, mg nm = some u ∧ RelV v u ∧ ∀ W H, Den K C W H v p := fun k nm p q => by
  unfold glB at e
  have := List.all_eq_true.mp e _ (List.mem_of_getElem? q)
  refine ⟨by rw [List.getElem?_map, q]; rfl, ?_⟩
  dsimp only at this
  cases hn : nsIn K mainGlobals nm with
  | none => rw [hn] at this; cases p <;> exact nomatch (show false = true from this)
  | some v =>
    cases v with
    | none => rw [hn] at this; cases p <;> exact nomatch (show false = true from this)
    | some v =>
      rw [hn] at this
      cases p <;> cases v <;> first | exact nomatch (show false = true from this) | skip
      rename_i i j t
      have := of_decide_eq_true this
      subst this
      exact ⟨_, .int i, mg_of X G hn, ⟨t, rfl⟩, fun _ _ => .int i⟩
theorem fnAt_mk {T : Gtab} {F : Fn} {st : Stmt} {f : Addr} {od an : Option Addr} {oc kV doc pm cdv ct : Value} {osl : Array (Option Value)} (X : K.In h) (G : h.Ns mainGlobals mg) (a : nsIn K mainGlobals F.nm = some (some (.ref f)))
    (l : K.lookup f = some ⟨oc, od, .func (fnOf F.nm F.nm (defArgs st) (defBody st) (defScope st) .none kV doc pm an cdv ct), osl⟩) (c : codeIn K cdv F.nm = true) (k : keepIn K (.ref f) = true)
    (hd : F.df = []) (b : ∀ (kV doc pm : Value) (an : Option Addr) (cdv ct : Value) (us ws : List Value), us.length = F.np → ws.length = F.ks.length → bindArgs (fnOf F.nm F.nm (defArgs st) (defBody st) (defScope st) .none kV doc pm an cdv ct) ⟨us, F.ks.zip ws⟩ = pure ((F.N.take F.m).zip (us ++ ws))) :
    FnAt T K mg F st := ⟨⟨f, oc, od, .none, kV, doc, pm, an, cdv, ct, osl, [], [], l, c, k, mg_of X G a, .nil, fun _ _ _ => by rw [hd]; exact .nil, fun s us ws _ h1 h2 => .of_eq (by rw [List.append_nil]; exact b kV doc pm an cdv ct us ws h1 h2)⟩⟩
/-- .. with defaults, the last of which the call leaves out -/
theorem fnAt_mkD {T : Gtab} {F : Fn} {st : Stmt} {f t : Addr} {od an : Option Addr} {oc kV doc pm cdv ct : Value} {osl : Array (Option Value)} {o : Obj} {its : Array Value} {n j : Nat} {ds : List V} (X : K.In h) (G : h.Ns mainGlobals mg) (a : nsIn K mainGlobals F.nm = some (some (.ref f)))
    (l : K.lookup f = some ⟨oc, od, .func (fnOf F.nm F.nm (defArgs st) (defBody st) (defScope st) (.ref t) kV doc pm an cdv ct), osl⟩) (c : codeIn K cdv F.nm = true) (k : keepIn K (.ref f) = true)
    (lt : K.lookup t = some o) (ot : o.data = .seq its n) (rd : Vals ds (its.toList.drop j)) (dd : ∀ C W H, Dens K C W H ds F.df)
    (b : ∀ (kV doc pm : Value) (an : Option Addr) (cdv ct : Value) (us ws : List Value), us.length = F.np → ws.length = F.ks.length → ∃ k, bindArgs (fnOf F.nm F.nm (defArgs st) (defBody st) (defScope st) (.ref t) kV doc pm an cdv ct) ⟨us, F.ks.zip ws⟩ = seqItems? (.ref t) >>= k ∧ k (some its) = pure ((F.N.take F.m).zip (us ++ ws ++ its.toList.drop j))) :
    FnAt T K mg F st := ⟨⟨f, oc, od, .ref t, kV, doc, pm, an, cdv, ct, osl, ds, its.toList.drop j, l, c, k, mg_of X G a, rd, dd, fun s us ws X2 h1 h2 => by
      obtain ⟨k2, e1, e2⟩ := b kV doc pm an cdv ct us ws h1 h2
      refine BindsTo.of_looks fun M => ?_
      rw [e1]
      exact looks_items X2 lt ot (.of_pure e2)⟩⟩
end

/-! ### the law's own call -/
theorem dens_ints {K : Frag} {C : Nat → Addr} {W : Wd} {H : Hp} : ∀ ns : List Int, Dens K C W H (ns.map V.int) (ns.map PV.int)
  | [] => .nil
  | n :: ns => .cons (.int n) (dens_ints ns)
def bareW : Wd := ⟨fun _ => False, fun _ => none, fun _ => none⟩
theorem bareW_rel {K : Frag} {C : Nat → Addr} {H : Hp} (z : Sz H) : RelS K C bareW H [] :=
  ⟨⟨fun _ _ e => (nomatch e), fun _ _ e => (nomatch e), fun _ e => False.elim e, fun _ _ e => False.elim e, fun _ _ e => False.elim e, fun _ _ _ e => (nomatch e), fun _ _ _ e => (nomatch e), fun _ _ _ e => (nomatch e)⟩, z, fun n xs e => by simp at e, fun _ _ e => (nomatch e)⟩
/-- the law's promise -/
def LawOk (P : Program) (w : World) (K : Frag) (mg : Str → Option Value) (f : Addr) (k : Nat) (ns : List Int) : Prop :=
  ∀ base : Heap, ∃ r, CallOk P w K mg base k 1 [] f (spF K (fun _ => 0) r) ∧ ∃ st, r [.scr (ns.map .int)] [] = .ok (.bl true) st
end Rm
set_option Elab.async false
set_option linter.all false
set_option maxHeartbeats 8000000
/-! The law's own call: behind the top, with the script. -/
namespace Rm
open PySem PySem.Spec L2 PySem.W
section
variable {P : Program} {w : World} {K : Frag} {mg mb : Str → Option Value} {C : Nat → Addr} {k : Nat} {fa a : Addr} {s : Shared} {vs : List Value} {ns : List Int} {r : List PV → Sto → Out PV}
/-- from a heap in which nothing but the script is told -/
theorem law_at {H : Hp} (KX : K.In s.heap) (hns : s.heap.Ns mainGlobals mg) (hb : s.heap.Ns builtinsNs mb) (hbb : ∀ x : Str, x ≠ "__name__" → mb x = bootBuiltins x) (hlim : s.heap.NoLimit) (hg : s.gens = #[])
    (ha : s.heap.get? a = some { cls := .type "list", data := .seq vs.toArray }) (hr : Room k callerA)
    (F : ∀ base : Heap, K.In base → base.Ns mainGlobals mg → CallOk P w K mg base k 1 [] fa (spF K C r)) (hrun : ∃ st, r [.scr (ns.map .int)] [] = .ok (.bl true) st)
    (hO : Only H) (hS : (∃ o, H a = some (.frz o (.lst (ns.map V.int)))) ∨ KList K a (ns.map V.int)) (hok : HOk P w H s.heap) (hA : ∀ b, H b ≠ none → b = a) (hK : H a ≠ none → K.lookup a = none) :
    codeAny (model P w) callerA (.call (.ref fa) ⟨[.ref a], []⟩) (fun q t => q = .ok (.ret (.bool true)) ∧ OldK s.heap t.heap ∧ t.os = s.os ∧ PyProof.Rows.AllBare t.gens) s := by
  have only : ∀ {b : Addr} {u : HO}, H b = some u → b = a := fun {b u} q => hA b (by rw [q]; simp)
  have noA : ∀ {b : Addr} {o : Obj} {es : Array DictEntry} {ep : Nat}, s.heap.get? b = some o → o.data = .dict es ep → H b = none := fun {b o es ep} e d => by
    cases q : H b with
    | none => rfl
    | some u =>
      obtain rfl := only q
      rw [ha] at e
      cases e
      have z : Data.seq vs.toArray _ = Data.dict es ep := d
      cases z
  have nsK : ∀ {b : Addr} {m : Str → Option Value}, s.heap.Ns b m → (hidT s.heap H).Ns b m := fun {b m} ⟨o, es, ep, e, d, z⟩ => ⟨o, es, ep, hidT_get e (noA e d), d, z⟩
  have kB : K.In (hidT s.heap H) := fun b o e => hidT_get (KX b o e) (by
    cases q : H b with
    | none => rfl
    | some u =>
      obtain rfl := only q
      rw [hK (by rw [q]; simp)] at e
      cases e)
  have md : Mod K mg (hidT s.heap H) := ⟨kB, nsK hns, ⟨mb, nsK hb, hbb⟩, let ⟨mc, z1, z2⟩ := hlim; ⟨mc, nsK z1, z2⟩⟩
  have e0 : Env0 P w K mg (hidT s.heap H) callerA [] s H := ⟨rfl, md, fun b o e => of_hidT e, Nat.le_of_eq (hidT_size _ _), trivial, fun b hb => absurd (show b ∈ ([] : List Addr) from hb) (by simp), hok, .of_eq hg⟩
  have sz : Sz H := fun b us q => by
    rcases q with q | q
    · exact (q.ok hok).1
    · exact (q.ok hok).1
  obtain ⟨st, hr2⟩ := hrun
  refine codeAny_mono (F _ kB (nsK hns) callerA [] s H [.ref a] [] [.ref a] (fun v _ => v = .bl true) (fun _ _ _ => False) hr rfl e0 rfl rfl (.cons rfl .nil) ⟨bareW, [], [.scr (ns.map .int)], bareW_rel sz, rfl, .cons (.scr hS (dens_ints ns)) .nil, ?_⟩) fun q t h => ?_
  · rw [hr2]
    exact fun W' H' v _ _ _ d => by
      cases d
      rfl
  · cases q with
    | error e =>
      obtain ⟨_, _, _, _, _, _, _, _, _, _, _, _, z⟩ := h
      exact z.elim
    | ok fl =>
      cases fl with
      | next => exact False.elim h
      | brk => exact False.elim h
      | cont => exact False.elim h
      | ret u =>
        obtain ⟨v, H', os, bare, un, hok', rv, q⟩ := h
        obtain rfl : v = .bl true := q
        obtain rfl : u = Value.bool true := rv
        refine ⟨rfl, OldK.of_keep fun b o e => ?_, os, bare⟩
        cases q : H b with
        | none => exact un.keep b o e q (fun z => absurd (show b ∈ ([] : List Addr) from z) (by simp)) (by simp)
        | some u =>
          rcases hO b with z | ⟨ob, xs, z⟩
          · rw [q] at z
            cases z
          · obtain ⟨e1, _⟩ := hok b _ z
            obtain ⟨e2, _⟩ := hok' b _ (un.frzs b ob _ z)
            rw [e] at e1
            cases e1
            exact e2
theorem law_runs (KX : K.In s.heap) (hns : s.heap.Ns mainGlobals mg) (hb : s.heap.Ns builtinsNs mb) (hbb : ∀ x : Str, x ≠ "__name__" → mb x = bootBuiltins x) (hlim : s.heap.NoLimit) (hg : s.gens = #[])
    (ha : s.heap.get? a = some { cls := .type "list", data := .seq vs.toArray }) (hi : PyProof.Rows.IntsAre vs ns) (hl : ns.length ≤ sizeLine) (hr : Room k callerA)
    (F : ∀ base : Heap, K.In base → base.Ns mainGlobals mg → CallOk P w K mg base k 1 [] fa (spF K C r)) (hrun : ∃ st, r [.scr (ns.map .int)] [] = .ok (.bl true) st) :
    codeAny (model P w) callerA (.call (.ref fa) ⟨[.ref a], []⟩) (fun q t => q = .ok (.ret (.bool true)) ∧ OldK s.heap t.heap ∧ t.os = s.os ∧ PyProof.Rows.AllBare t.gens) s := by
  have rv := vals_ints hi
  have lv := hi.length
  cases hk : K.lookup a with
  | some o =>
    have e := KX a o hk
    rw [ha] at e
    cases e
    exact law_at (H := fun _ => none) KX hns hb hbb hlim hg ha hr F hrun (fun _ => .inl rfl) (.inr ⟨_, vs.toArray, _, hk, rfl, rfl, rfl, by rw [List.size_toArray, lv]; exact hl, by simpa using rv⟩) (fun b u z => by have z' : (none : Option HO) = some u := z; cases z') (fun b z => absurd rfl z) fun z => absurd rfl z
  | none =>
    refine law_at (H := fun b => if b = a then some (.frz { cls := .type "list", data := .seq vs.toArray } (.lst (ns.map V.int))) else none) KX hns hb hbb hlim hg ha hr F hrun (fun b => ?_) (.inl ⟨_, if_pos rfl⟩) (fun b u z => ?_) (fun b z => ?_) fun _ => hk
    · by_cases q : b = a
      · exact .inr ⟨_, _, if_pos q⟩
      · exact .inl (if_neg q)
    · by_cases q : b = a
      · have z' := (if_pos q).symm.trans z
        cases z'
        subst q
        exact ⟨ha, by rw [List.length_map]; exact hl, vs, _, rv, ha⟩
      · have z' := (if_neg q).symm.trans z
        cases z'
    · by_cases q : b = a
      · exact q
      · exact absurd (if_neg q) z
end
/-- THE END: a law by its run -/
theorem walk_run {l : OpenLaw} {n k : Nat} {q : Program} {loose : List Str} {XP : (Str → Option Value) → Heap → Prop} {YP : World → Heap → Prop} {d : DefRec} {K : Params → Frag} {fs : List Fn} {gl : List PV} {anc : List (List Nat)} {fuel : Nat} {j : Nat} {L : Fn}
    (hn : l.most = some n) (hn2 : n ≤ sizeLine) (hdf : d.params.defaults = []) (hr : Room (k + 1) callerA) (hY : ∀ (w : World) (h : Heap), YP w h → (K w.params).In h) (hL : fs[j]? = some L) (hnm : L.nm = d.name) (hnp : L.np = 1) (hks : L.ks = [])
    (F : ∀ (w : World) (mg : Str → Option Value) (h : Heap), (K w.params).In h → h.Ns mainGlobals mg → ∃ (T : Gtab) (C : Nat → Addr), Still T C fs gl anc (K w.params) mg)
    (hrun : ∀ ns : List Int, ns.length ≤ n → (∀ z ∈ ns, Builtin.Int.intBits z ≤ 1048576) → ∃ st, runFn (sigAt fs gl anc fuel k) L [.scr (ns.map .int)] [] = .ok (.bl true) st) :
    WalkO q loose XP YP l.row.toRowW d [] (fun f vs => PySem.call f vs) := by
  refine Att.attach_callB hn hdf fun w s₀ s₁ mg mb fa o pm cd doc a vs ns G Y ho hd hcd hmg hobj hints hlen hbits hg => ?_
  have KX := hY w _ Y
  obtain ⟨T, C, S⟩ := F w mg _ KX G.T.g
  refine law_runs (C := C) (r := runFn (sigAt fs gl anc fuel k) L) KX G.T.g G.T.b G.T.builtins G.T.nolimit hg hobj hints (Nat.le_trans hlen hn2) hr (fun base kb nb => ?_) (hrun ns hlen hbits)
  obtain ⟨x, A, hC⟩ := S.fns j L hL
  obtain ⟨f, h1, h2, h3⟩ := call_of (P := l.prog) (w := w) (base := base) A hC (glob_of (fuel := fuel) S k)
  rw [hnm, hmg] at h1
  cases h1
  rw [hnp, hks] at h3
  exact h3
end Rm
set_option Elab.async false
set_option linter.all false
set_option maxHeartbeats 4000000
/-! How the evaluator goes on, for simp. -/
namespace Rm
open PySem PySem.Spec L2
theorem nr {α : Sort u} {a b : α} (h : a = b) : a = b := h
section
variable (G : Sig) (fr : Frm) (st : Sto)
@[simp] theorem zevE_var (i : Nat) : evE G (.var i) fr st = (match fr[i]? with | some (some (.val p)) => .ok p st | some (some (.own _)) => .ok (.loc i) st | _ => .bad) := nr (by first | rfl | simp only [evE, evO, evC])
@[simp] theorem zevE_cst (p : PV) : evE G (.cst p) fr st = (.ok p st) := nr (by first | rfl | simp only [evE, evO, evC])
@[simp] theorem zevE_glb (k : Nat) : evE G (.glb k) fr st = (.of G.glb[k]? st) := nr (by first | rfl | simp only [evE, evO, evC])
@[simp] theorem zevE_neg (a : E) : evE G (.neg a) fr st = ((evE G a fr st).bind fun p st => .of (negF p) st) := nr (by first | rfl | simp only [evE, evO, evC])
@[simp] theorem zevE_not (a : E) : evE G (.not a) fr st = ((evE G a fr st).bind fun p st => (Out.of (truF (deref fr st p)) st).bind fun b st => .ok (.bl (!b)) st) := nr (by first | rfl | simp only [evE, evO, evC])
@[simp] theorem zevE_bin (op : Op) (a : E) (b : E) : evE G (.bin op a b) fr st = ((evE G a fr st).bind fun x st => (evE G b fr st).bind fun y st => .of (binF op (deref fr st x) (deref fr st y)) st) := nr (by first | rfl | simp only [evE, evO, evC])
@[simp] theorem zevE_cmp (op : Cop) (a : E) (b : E) : evE G (.cmp op a b) fr st = ((evE G a fr st).bind fun x st => (evE G b fr st).bind fun y st => (Out.of (cmpF op (deref fr st x) (deref fr st y)) st).bind fun k st => .ok (.bl k) st) := nr (by first | rfl | simp only [evE, evO, evC])
@[simp] theorem zevE_chn (o1 : Cop) (o2 : Cop) (a : E) (b : E) (c : E) : evE G (.chn o1 o2 a b c) fr st = ((evE G a fr st).bind fun x st => (evE G b fr st).bind fun y st => (Out.of (cmpF o1 (deref fr st x) (deref fr st y)) st).bind fun k st => if k = true then (evE G c fr st).bind fun z st => (Out.of (cmpF o2 (deref fr st y) (deref fr st z)) st).bind fun k st => .ok (.bl k) st else .ok (.bl false) st) := nr (by first | rfl | simp only [evE, evO, evC])
@[simp] theorem zevE_and (l : E) : evE G (.and l) fr st = (evA G l fr st) := nr (by first | rfl | simp only [evE, evO, evC])
@[simp] theorem zevE_or (l : E) : evE G (.or l) fr st = (evR G l fr st) := nr (by first | rfl | simp only [evE, evO, evC])
@[simp] theorem zevE_ite (c : E) (a : E) (b : E) : evE G (.ite c a b) fr st = ((evE G c fr st).bind fun x st => (Out.of (truF (deref fr st x)) st).bind fun k st => if k = true then evE G a fr st else evE G b fr st) := nr (by first | rfl | simp only [evE, evO, evC])
@[simp] theorem zevE_tup (l : E) : evE G (.tup l) fr st = ((evL G l fr st).bind fun xs st => if keepAll xs = true ∧ fits xs.length = true then .ok (.seq true xs) st else .bad) := nr (by first | rfl | simp only [evE, evO, evC])
@[simp] theorem zevE_lst (l : E) : evE G (.lst l) fr st = ((evL G l fr st).bind fun xs st => if keepAll xs = true ∧ fits xs.length = true then .ok (.seq false xs) st else .bad) := nr (by first | rfl | simp only [evE, evO, evC])
@[simp] theorem zevE_sub (a : E) (i : E) : evE G (.sub a i) fr st = ((evE G a fr st).bind fun x st => (evE G i fr st).bind fun y st => .of (idxF (deref fr st x) y) st) := nr (by first | rfl | simp only [evE, evO, evC])
@[simp] theorem zevE_slc (a : E) (lo : E) (hi : E) : evE G (.slc a lo hi) fr st = ((evE G a fr st).bind fun x st => (evO G lo fr st).bind fun l st => (evO G hi fr st).bind fun h st => .of (cutF l h (deref fr st x)) st) := nr (by first | rfl | simp only [evE, evO, evC])
@[simp] theorem zevE_rev (a : E) : evE G (.rev a) fr st = ((evE G a fr st).bind fun x st => .of (revF (deref fr st x)) st) := nr (by first | rfl | simp only [evE, evO, evC])
@[simp] theorem zevE_call (f : Nat) (l : E) (k : E) : evE G (.call f l k) fr st = ((evL G l fr st).bind fun xs st => (evL G k fr st).bind fun ys st => if keepAll (xs ++ ys) = true then G.call f (xs ++ ys) st else .bad) := nr (by first | rfl | simp only [evE, evO, evC])
@[simp] theorem zevE_blt (b : Blt) (l : E) : evE G (.blt b l) fr st = ((evL G l fr st).bind fun xs st => .of (bltF b (xs.map (deref fr st))) st) := nr (by first | rfl | simp only [evE, evO, evC])
@[simp] theorem zevE_isi (a : E) (ts : List Ty) : evE G (.isi a ts) fr st = ((evE G a fr st).bind fun x st => (Out.of (isiAny G (deref fr st x) ts) st).bind fun k st => .ok (.bl k) st) := nr (by first | rfl | simp only [evE, evO, evC])
@[simp] theorem zevE_fld (a : E) : evE G (.fld a) fr st = ((evE G a fr st).bind fun x st => .of (excF x) st) := nr (by first | rfl | simp only [evE, evO, evC])
@[simp] theorem zevE_idx (a : E) (x : E) : evE G (.idx a x) fr st = ((evE G a fr st).bind fun v st => (Out.of (lstF (deref fr st v)) st).bind fun _ st => (evE G x fr st).bind fun y st => .of (idxM (deref fr st y) (deref fr st v)) st) := nr (by first | rfl | simp only [evE, evO, evC])
@[simp] theorem zevE_cnt (a : E) (x : E) : evE G (.cnt a x) fr st = ((evE G a fr st).bind fun v st => (Out.of (lstF (deref fr st v)) st).bind fun _ st => (evE G x fr st).bind fun y st => .of (cntM (deref fr st y) (deref fr st v)) st) := nr (by first | rfl | simp only [evE, evO, evC])
@[simp] theorem zevE_comp (own : List Nat) (elt : E) (tg : T) (it : E) (c : E) : evE G (.comp own elt tg it c) fr st = ((evI G it fr st).bind fun xs st => (compRun (evE G elt) (evC G c) tg (wipeF fr own) xs [] st).bind fun ys st => .ok (.seq false ys) st) := nr (by first | rfl | simp only [evE, evO, evC])
@[simp] theorem zevE_comp2 (own : List Nat) (elt : E) (tg : T) (it : E) (own2 : List Nat) (tg2 : T) (it2 : E) : evE G (.comp2 own elt tg it own2 tg2 it2) fr st = ((evI G it fr st).bind fun xs st => (comp2Run (evI G it2) (evE G elt) tg tg2 own2 (wipeF fr own) xs [] st).bind fun ys st => .ok (.seq false ys) st) := nr (by first | rfl | simp only [evE, evO, evC])
@[simp] theorem zevE_fldI (a : E) (c : Nat) (k : Nat) : evE G (.fldI a c k) fr st = ((evE G a fr st).bind fun x st => .of (fldF c k x) st) := nr (by first | rfl | simp only [evE, evO, evC])
@[simp] theorem zevE_lnI (f : Nat) (c : Nat) (a : E) : evE G (.lnI f c a) fr st = ((evE G a fr st).bind fun x st => (Out.of (insF c x) st).bind fun x st => (G.call f [x] st).bind fun n st => (Out.of (intF n) st).bind fun i st => if 0 ≤ i ∧ i < 2 ^ 62 then .ok (.int i) st else .bad) := nr (by first | rfl | simp only [evE, evO, evC])
@[simp] theorem zevE_eqI (f : Nat) (c : Nat) (neg : Bool) (a : E) (b : E) : evE G (.eqI f c neg a b) fr st = ((evE G a fr st).bind fun x st => (evE G b fr st).bind fun y st => (Out.of (insF c x) st).bind fun x st => if keep y = true then (G.call f [x, y] st).bind fun k st => (Out.of (blF k) st).bind fun k st => .ok (.bl (k != neg)) st else .bad) := nr (by first | rfl | simp only [evE, evO, evC])
@[simp] theorem zevE_mcl (f : Nat) (c : Nat) (a : E) (l : E) : evE G (.mcl f c a l) fr st = ((evE G a fr st).bind fun x st => (Out.of (insF c x) st).bind fun x st => (evL G l fr st).bind fun xs st => if keepAll xs = true then G.call f (x :: xs) st else .bad) := nr (by first | rfl | simp only [evE, evO, evC])
@[simp] theorem zevE_lrg (t : Bool) (a : E) (b : E) : evE G (.lrg t a b) fr st = ((evE G a fr st).bind fun x st => (evO G b fr st).bind fun o st => (Out.of (rngF (x :: (match o with | none => [] | some i => [.int i]))) st).bind fun ys st => .ok (.seq t ys) st) := nr (by first | rfl | simp only [evE, evO, evC])
@[simp] theorem zevA_cons (a : E) (l : E) : evA G (.cons a l) fr st = ((evE G a fr st).bind fun x st => (Out.of (blF x) st).bind fun b st => if b = true then evA G l fr st else .ok (.bl false) st) := nr (by first | rfl | simp only [evA, evO, evC])
@[simp] theorem zevA_nil  : evA G .nil fr st = (.ok (.bl true) st) := nr (by first | rfl | simp only [evA, evO, evC])
@[simp] theorem zevR_cons (a : E) (l : E) : evR G (.cons a l) fr st = ((evE G a fr st).bind fun x st => (Out.of (blF x) st).bind fun b st => if b = true then .ok (.bl true) st else evR G l fr st) := nr (by first | rfl | simp only [evR, evO, evC])
@[simp] theorem zevR_nil  : evR G .nil fr st = (.ok (.bl false) st) := nr (by first | rfl | simp only [evR, evO, evC])
@[simp] theorem zevL_nil  : evL G .nil fr st = (.ok [] st) := nr (by first | rfl | simp only [evL, evO, evC])
@[simp] theorem zevL_cons (a : E) (l : E) : evL G (.cons a l) fr st = ((evE G a fr st).bind fun x st => (evL G l fr st).bind fun xs st => .ok (x :: xs) st) := nr (by first | rfl | simp only [evL, evO, evC])
@[simp] theorem zevI_itS (a : E) : evI G (.itS a) fr st = ((evE G a fr st).bind fun x st => .of (seqF x) st) := nr (by first | rfl | simp only [evI, evO, evC])
@[simp] theorem zevI_itR (l : E) : evI G (.itR l) fr st = ((evL G l fr st).bind fun xs st => .of (rngF xs) st) := nr (by first | rfl | simp only [evI, evO, evC])
@[simp] theorem zevI_itE (a : E) : evI G (.itE a) fr st = ((evE G a fr st).bind fun x st => .of ((seqF x).map (enumF 0)) st) := nr (by first | rfl | simp only [evI, evO, evC])
@[simp] theorem zevI_itZ (s : Bool) (a : E) (b : E) : evI G (.itZ s a b) fr st = ((evE G a fr st).bind fun x st => (evE G b fr st).bind fun y st => (Out.of (seqF x) st).bind fun xs st => (Out.of (seqF y) st).bind fun ys st => .of (zipM s xs ys) st) := nr (by first | rfl | simp only [evI, evO, evC])
@[simp] theorem zexS_nop  : exS G .nop fr st = (.nx fr st) := nr (by first | rfl | simp only [exS])
@[simp] theorem zexS_doc  : exS G .doc fr st = (.nx fr st) := nr (by first | rfl | simp only [exS])
@[simp] theorem zexS_seq (a : S) (b : S) : exS G (.seq a b) fr st = ((exS G a fr st).then (exS G b)) := nr (by first | rfl | simp only [exS])
@[simp] theorem zexS_frz (i : Nat) (b : S) : exS G (.frz i b) fr st = ((Res.ofF (frzF i fr) st).then (exS G b)) := nr (by first | rfl | simp only [exS])
@[simp] theorem zexS_set (i : Nat) (e : E) : exS G (.set i e) fr st = ((evE G e fr st).res fr fun p st => .ofF (setF i p fr) st) := nr (by first | rfl | simp only [exS])
@[simp] theorem zexS_own (i : Nat) (e : E) : exS G (.own i e) fr st = ((evE G e fr st).res fr fun p st => .ofF (ownF i p fr) st) := nr (by first | rfl | simp only [exS])
@[simp] theorem zexS_tgt (t : T) (e : E) : exS G (.tgt t e) fr st = ((evE G e fr st).res fr fun p st => if keep p = true then .ofF (asg t p fr) st else .bad) := nr (by first | rfl | simp only [exS])
@[simp] theorem zexS_par (i : Nat) (j : Nat) (a : E) (b : E) : exS G (.par i j a b) fr st = ((evE G a fr st).res fr fun p st => (evE G b fr st).res fr fun q st => .ofF ((setF i p fr).bind (setF j q)) st) := nr (by first | rfl | simp only [exS])
@[simp] theorem zexS_par3 (i : Nat) (j : Nat) (l : Nat) (a : E) (b : E) (d : E) : exS G (.par3 i j l a b d) fr st = ((evE G a fr st).res fr fun p st => (evE G b fr st).res fr fun q st => (evE G d fr st).res fr fun r st => .ofF ((setF i p fr).bind fun fr => (setF j q fr).bind (setF l r)) st) := nr (by first | rfl | simp only [exS])
@[simp] theorem zexS_aug (i : Nat) (op : Op) (e : E) : exS G (.aug i op e) fr st = (match valF fr i with | some x => (evE G e fr st).res fr fun y st => .ofF ((augF op x y).bind fun z => setF i z fr) st | none => .bad) := nr (by first | rfl | simp only [exS])
@[simp] theorem zexS_app (i : Nat) (e : E) : exS G (.app i e) fr st = (if lstSlot fr st i = true then (evE G e fr st).res fr fun p st => wrF fr st i (appF p) else .bad) := nr (by first | rfl | simp only [exS])
@[simp] theorem zexS_sto (i : Nat) (k : E) (e : E) : exS G (.sto i k e) fr st = (if lstSlot fr st i = true then (evE G e fr st).res fr fun p st => (evE G k fr st).res fr fun k st => wrF fr st i (stoF k p) else .bad) := nr (by first | rfl | simp only [exS])
@[simp] theorem zexS_ins (i : Nat) (k : E) (e : E) : exS G (.ins i k e) fr st = (if lstSlot fr st i = true then (evE G k fr st).res fr fun k st => (evE G e fr st).res fr fun p st => wrF fr st i (insL k p) else .bad) := nr (by first | rfl | simp only [exS])
@[simp] theorem zexS_swp (i : Nat) (a : E) (b : E) (v : E) : exS G (.swp i a b v) fr st = (if lstSlot fr st i = true then (evE G v fr st).res fr fun t st => (match pairF t with | some (p, q) => (evE G a fr st).res fr fun j st => (wrF fr st i (stoF j p)).then fun fr st => (evE G b fr st).res fr fun k st => wrF fr st i (stoF k q) | none => .bad) else .bad) := nr (by first | rfl | simp only [exS])
@[simp] theorem zexS_xpr (e : E) : exS G (.xpr e) fr st = ((evE G e fr st).res fr fun _ st => .nx fr st) := nr (by first | rfl | simp only [exS])
@[simp] theorem zexS_ret (e : E) : exS G (.ret e) fr st = ((evE G e fr st).res fr fun p st => if keep p = true then .rt p st else .bad) := nr (by first | rfl | simp only [exS])
@[simp] theorem zexS_retN  : exS G .retN fr st = (.rt .non st) := nr (by first | rfl | simp only [exS])
@[simp] theorem zexS_retF (e : E) : exS G (.retF e) fr st = ((evE G e fr st).res fr fun p st => match p with | .seq false xs => .rt (.ref st.length) (st ++ [xs]) | _ => .bad) := nr (by first | rfl | simp only [exS])
@[simp] theorem zexS_ite (c : E) (a : S) (b : S) : exS G (.ite c a b) fr st = ((evT G c fr st).res fr fun k st => if k = true then exS G a fr st else exS G b fr st) := nr (by first | rfl | simp only [exS])
@[simp] theorem zexS_for (t : T) (it : E) (b : S) : exS G (.for t it b) fr st = ((evI G it fr st).res fr fun xs st => forRun t (exS G b) xs fr st) := nr (by first | rfl | simp only [exS])
@[simp] theorem zexS_whl (c : E) (b : S) : exS G (.whl c b) fr st = (whlRun (evT G c) (exS G b) G.fuel fr st) := nr (by first | rfl | simp only [exS])
@[simp] theorem zexS_brk  : exS G .brk fr st = (.bk fr st) := nr (by first | rfl | simp only [exS])
@[simp] theorem zexS_cnt  : exS G .cnt fr st = (.ct fr st) := nr (by first | rfl | simp only [exS])
@[simp] theorem zexS_rse (c : Nat) (l : E) : exS G (.rse c l) fr st = ((evL G l fr st).res fr fun ps st => if fits ps.length = true then .ex c .non fr st else .bad) := nr (by first | rfl | simp only [exS])
@[simp] theorem zexS_try (b : S) (c : Nat) (i : Nat) (j : Nat) : exS G (.try b c i j) fr st = (tryF G c i j (exS G b fr st)) := nr (by first | rfl | simp only [exS])
@[simp] theorem sO_nil : evO G .nil fr st = .ok none st := nr rfl
@[simp] theorem sC_nil : evC G .nil fr st = .ok true st := nr rfl
end

theorem seq_set {G : Sig} {i : Nat} {e : E} {b : S} {fr : Frm} {st st' : Sto} {p : PV} (h : evE G e fr st = .ok p st') (hk : keep p = true) (hi : i < fr.length) : exS G (.seq (.set i e) b) fr st = exS G b (fr.set i (some (.val p))) st' := by
  simp [h, setF, hk, hi, Res.ofF]
theorem seq_itF {G : Sig} {c : E} {a b : S} {fr : Frm} {st st' : Sto} (h : evT G c fr st = .ok false st') : exS G (.seq (.ite c a .nop) b) fr st = exS G b fr st' := by
  simp [h]
theorem seq_itT {G : Sig} {c : E} {a d b : S} {fr : Frm} {st st' : Sto} (h : evT G c fr st = .ok true st') : exS G (.seq (.ite c a d) b) fr st = (exS G a fr st').then (exS G b) := by
  simp [h]
theorem seq_ret {G : Sig} {e : E} {b : S} {fr : Frm} {st st' : Sto} {p : PV} (h : evE G e fr st = .ok p st') (hk : keep p = true) : exS G (.seq (.ret e) b) fr st = .rt p st' := by
  simp [h, hk]
end Rm
set_option Elab.async false
set_option linter.all false
set_option maxHeartbeats 4000000
/-! What holds behind a run: step by step, for simp. -/
namespace Rm
open PySem PySem.Spec L2
/-- a run that ends well, and what holds then -/
def PO {α : Type} (o : Out α) (A : α → Sto → Prop) : Prop := match o with
  | .ok a st => A a st
  | _ => False
/-- a statement's run: N behind its end, R behind a return, U behind continue -/
def PR (r : Res) (N : Frm → Sto → Prop) (R : PV → Sto → Prop) (U : Frm → Sto → Prop) : Prop := match r with
  | .nx fr st => N fr st
  | .rt p st => R p st
  | .ct fr st => U fr st
  | _ => False
abbrev noU : Frm → Sto → Prop := fun _ _ => False
theorem PO_cg {α : Type} {o o' : Out α} {A : α → Sto → Prop} (h : o = o') : PO o A = PO o' A := by rw [h]
theorem PR_cg {r r' : Res} {N : Frm → Sto → Prop} {R : PV → Sto → Prop} {U : Frm → Sto → Prop} (h : r = r') : PR r N R U = PR r' N R U := by rw [h]
theorem bind_cg {α β : Type} {o o' : Out α} {f : α → Sto → Out β} (h : o = o') : o.bind f = o'.bind f := by rw [h]
theorem res_cg {α : Type} {o o' : Out α} {fr : Frm} {k : α → Sto → Res} (h : o = o') : o.res fr k = o'.res fr k := by rw [h]
theorem then_cg {r r' : Res} {k : Frm → Sto → Res} (h : r = r') : r.then k = r'.then k := by rw [h]
@[simp] theorem PO_ok {α : Type} (a : α) (st : Sto) (A : α → Sto → Prop) : PO (.ok a st) A = A a st := rfl
@[simp] theorem PO_exc {α : Type} (c : Nat) (p : PV) (st : Sto) (A : α → Sto → Prop) : PO (.exc c p st : Out α) A = False := rfl
@[simp] theorem PO_bad {α : Type} (A : α → Sto → Prop) : PO (.bad : Out α) A = False := rfl
@[simp] theorem PO_bind {α β : Type} (o : Out α) (f : α → Sto → Out β) (A : β → Sto → Prop) : PO (o.bind f) A = PO o (fun a st => PO (f a st) A) := by
  cases o <;> rfl
@[simp] theorem PR_nx (fr : Frm) (st : Sto) (N : Frm → Sto → Prop) (R : PV → Sto → Prop) (U : Frm → Sto → Prop) : PR (.nx fr st) N R U = N fr st := rfl
@[simp] theorem PR_rt (p : PV) (st : Sto) (N : Frm → Sto → Prop) (R : PV → Sto → Prop) (U : Frm → Sto → Prop) : PR (.rt p st) N R U = R p st := rfl
@[simp] theorem PR_ct (fr : Frm) (st : Sto) (N : Frm → Sto → Prop) (R : PV → Sto → Prop) (U : Frm → Sto → Prop) : PR (.ct fr st) N R U = U fr st := rfl
@[simp] theorem PR_then (r : Res) (k : Frm → Sto → Res) (N : Frm → Sto → Prop) (R : PV → Sto → Prop) (U : Frm → Sto → Prop) : PR (r.then k) N R U = PR r (fun fr st => PR (k fr st) N R U) R U := by
  cases r <;> rfl
@[simp] theorem PR_res {α : Type} (o : Out α) (fr : Frm) (k : α → Sto → Res) (N : Frm → Sto → Prop) (R : PV → Sto → Prop) (U : Frm → Sto → Prop) : PR (o.res fr k) N R U = PO o (fun a st => PR (k a st) N R U) := by
  cases o <;> rfl
@[simp] theorem PO_outR (r : Res) (A : PV → Sto → Prop) : PO (outR r) A = PR r (fun _ st => A .non st) A noU := by
  cases r <;> rfl
theorem PO_imp {α : Type} {o : Out α} {A B : α → Sto → Prop} (h : PO o A) (k : ∀ a st, A a st → B a st) : PO o B := by
  cases o with
  | ok a st => exact k _ _ h
  | exc c p st => exact h
  | bad => exact h
theorem PR_imp {r : Res} {N N' : Frm → Sto → Prop} {R R' : PV → Sto → Prop} {U U' : Frm → Sto → Prop} (h : PR r N R U) (a : ∀ fr st, N fr st → N' fr st) (b : ∀ p st, R p st → R' p st) (c : ∀ fr st, U fr st → U' fr st) : PR r N' R' U' := by
  cases r with
  | nx fr st => exact a _ _ h
  | rt p st => exact b _ _ h
  | ct fr st => exact c _ _ h
  | bk fr st => exact h
  | ex c p fr st => exact h
  | bad => exact h
theorem PO_eq {α : Type} {o : Out α} {A : α → Sto → Prop} (h : PO o A) : ∃ a st, o = .ok a st ∧ A a st := by
  cases o with
  | ok a st => exact ⟨a, st, rfl, h⟩
  | exc c p st => exact h.elim
  | bad => exact h.elim
/-- a call's run -/
theorem PO_run {G : Sig} {F : Fn} {ps : List PV} {st : Sto} {A : PV → Sto → Prop} (hl : ps.length = F.np + F.ks.length) (h : PR (exS G F.body (startF F.N (ps ++ F.df)) st) (fun _ st => A .non st) A noU) : PO (runFn G F ps st) A := by
  unfold runFn
  rw [if_pos hl, PO_outR]
  exact h
/-! ### loops -/
theorem PR_for {t : T} {body : Frm → Sto → Res} {R : PV → Sto → Prop} {N : Frm → Sto → Prop} {U : Frm → Sto → Prop} (I : List PV → Frm → Sto → Prop) :
    ∀ {xs : List PV} {fr : Frm} {st : Sto}, I xs fr st →
    (∀ x xs' fr st, I (x :: xs') fr st → x ∈ xs → ∃ fr1, asg t x fr = some fr1 ∧ PR (body fr1 st) (I xs') R (I xs')) → (∀ fr st, I [] fr st → N fr st) → PR (forRun t body xs fr st) N R U
  | [], fr, st, h, _, hN => hN _ _ h
  | x :: xs, fr, st, h, hs, hN => by
    obtain ⟨fr1, h1, h2⟩ := hs x xs fr st h (List.mem_cons_self)
    unfold forRun
    simp only [h1]
    have go : ∀ fr2 st2, I xs fr2 st2 → PR (forRun t body xs fr2 st2) N R U := fun fr2 st2 h3 => PR_for I h3 (fun y ys fr st hi hy => hs y ys fr st hi (List.mem_cons_of_mem _ hy)) hN
    cases hb : body fr1 st with
    | nx fr2 st2 => rw [hb] at h2; exact go _ _ h2
    | ct fr2 st2 => rw [hb] at h2; exact go _ _ h2
    | rt p st2 => rw [hb] at h2; exact h2
    | bk fr2 st2 => rw [hb] at h2; exact h2.elim
    | ex c p fr2 st2 => rw [hb] at h2; exact h2.elim
    | bad => rw [hb] at h2; exact h2.elim
theorem PR_whl {tst : Frm → Sto → Out Bool} {body : Frm → Sto → Res} {R : PV → Sto → Prop} {N : Frm → Sto → Prop} {U : Frm → Sto → Prop} (I : Nat → Frm → Sto → Prop)
    (hs : ∀ n fr st, I n fr st → PO (tst fr st) fun b st' => if b = true then 0 < n ∧ PR (body fr st') (I (n - 1)) R (I (n - 1)) else N fr st') :
    ∀ {n fuel : Nat} {fr : Frm} {st : Sto}, I n fr st → n < fuel → PR (whlRun tst body fuel fr st) N R U
  | n, 0, fr, st, _, hf => absurd hf (by omega)
  | n, fuel + 1, fr, st, h, hf => by
    have h1 := hs n fr st h
    unfold whlRun
    rw [PR_res]
    refine PO_imp h1 fun b st1 h2 => ?_
    cases b with
    | false =>
      rw [if_neg (by decide)] at h2 ⊢
      exact h2
    | true =>
      rw [if_pos rfl] at h2 ⊢
      obtain ⟨hn, h2⟩ := h2
      have go : ∀ fr2 st2, I (n - 1) fr2 st2 → PR (whlRun tst body fuel fr2 st2) N R U := fun fr2 st2 h3 => PR_whl I hs h3 (by omega)
      cases hb : body fr st1 with
      | nx fr2 st2 => rw [hb] at h2; exact go _ _ h2
      | ct fr2 st2 => rw [hb] at h2; exact go _ _ h2
      | rt p st2 => rw [hb] at h2; exact h2
      | bk fr2 st2 => rw [hb] at h2; exact h2.elim
      | ex c p fr2 st2 => rw [hb] at h2; exact h2.elim
      | bad => rw [hb] at h2; exact h2.elim
/-- a comprehension, by an invariant of what is left, what is made, the store -/
theorem PO_comp {els : Frm → Sto → Out PV} {cnd : Frm → Sto → Out Bool} {tg : T} {fr : Frm} {A : List PV → Sto → Prop} (I : List PV → List PV → Sto → Prop) :
    ∀ {xs acc : List PV} {st : Sto}, I xs acc st →
    (∀ x xs' acc st, I (x :: xs') acc st → x ∈ xs → ∃ fr1, asg tg x fr = some fr1 ∧ PO (cnd fr1 st) fun b st => if b = true then PO (els fr1 st) fun p st => keep p = true ∧ I xs' (acc ++ [p]) st else I xs' acc st) →
    (∀ acc st, I [] acc st → A acc st) → PO (compRun els cnd tg fr xs acc st) A
  | [], acc, st, h, _, hA => by
    unfold compRun
    exact hA _ _ h
  | x :: xs, acc, st, h, hs, hA => by
    obtain ⟨fr1, h1, h2⟩ := hs x xs acc st h (List.mem_cons_self)
    unfold compRun
    simp only [h1]
    obtain ⟨b, st1, e1, h3⟩ := PO_eq h2
    rw [e1]
    cases b with
    | true =>
      rw [if_pos rfl] at h3
      obtain ⟨p, st2, e2, hk, h4⟩ := PO_eq h3
      simp only [e2, hk, if_true]
      exact PO_comp I h4 (fun y ys acc st hi hy => hs y ys acc st hi (List.mem_cons_of_mem _ hy)) hA
    | false =>
      rw [if_neg (by decide)] at h3
      exact PO_comp I h3 (fun y ys acc st hi hy => hs y ys acc st hi (List.mem_cons_of_mem _ hy)) hA
/-- .. that tells one thing of each item, the store as it was -/
theorem comp_eq {els : Frm → Sto → Out PV} {cnd : Frm → Sto → Out Bool} {tg : T} {fr : Frm} {st : Sto} (c : PV → Bool) (g : PV → PV) : ∀ (xs acc : List PV),
    (∀ x ∈ xs, ∃ fr1, asg tg x fr = some fr1 ∧ cnd fr1 st = .ok (c x) st ∧ (c x = true → els fr1 st = .ok (g x) st ∧ keep (g x) = true)) →
    compRun els cnd tg fr xs acc st = .ok (acc ++ (xs.filter c).map g) st
  | [], acc, _ => by simp [compRun]
  | x :: xs, acc, h => by
    obtain ⟨fr1, h1, h2, h3⟩ := h x (List.mem_cons_self)
    unfold compRun
    simp only [h1, h2]
    cases hc : c x with
    | true =>
      obtain ⟨h4, h5⟩ := h3 hc
      simp only [h4, h5, if_true]
      rw [comp_eq c g xs (acc ++ [g x]) fun y hy => h y (List.mem_cons_of_mem _ hy)]
      simp [hc]
    | false =>
      simp only
      rw [comp_eq c g xs acc fun y hy => h y (List.mem_cons_of_mem _ hy)]
      simp [hc]
theorem comp_map' {els : Frm → Sto → Out PV} {tg : T} {fr : Frm} {st : Sto} (g : PV → PV) (xs acc : List PV)
    (h : ∀ x ∈ xs, ∃ fr1, asg tg x fr = some fr1 ∧ els fr1 st = .ok (g x) st ∧ keep (g x) = true) :
    compRun els (fun _ st => .ok true st) tg fr xs acc st = .ok (acc ++ xs.map g) st := by
  have := comp_eq (els := els) (cnd := fun _ st => .ok true st) (tg := tg) (fr := fr) (st := st) (fun _ => true) g xs acc fun x hx => by
    obtain ⟨fr1, h1, h2, h3⟩ := h x hx
    exact ⟨fr1, h1, rfl, fun _ => ⟨h2, h3⟩⟩
  rw [this]
  congr 2
  rw [List.filter_eq_self.mpr (by simp)]
end Rm
set_option Elab.async false
set_option linter.all false
set_option maxRecDepth 100000
set_option maxHeartbeats 4000000
/-! Defs of the laws' texts as terms; the numbers of what they call are left open. -/
namespace Rp
open PySem PySem.Spec Rm
/-- is_whole -/
def P_is_whole : Fn := ⟨"is_whole", 1, [], ["thing"],
 (.seq (.ret (.and (.cons (.isi (.var 0) [.int]) (.cons (.not (.isi (.var 0) [.bool])) .nil))))
 .nop), []⟩
/-- is_prime -/
def P_is_prime (f_is_whole g_MOST_PRIME : Nat) : Fn := ⟨"is_prime", 1, [], ["thing", "number"],
 (.seq (.ite (.or (.cons (.not (.call f_is_whole (.cons (.var 0) .nil) .nil)) (.cons (.not (.chn .le .le (.cst (.int 2)) (.var 0) (.glb g_MOST_PRIME))) .nil)))
  (.seq (.ret (.cst (.bl false)))
  .nop)
  .nop)
 (.seq (.ret (.blt .all (.cons (.comp [1] (.cmp .ne (.bin .mod (.var 0) (.var 1)) (.cst (.int 0))) (.nm 1) (.itR (.cons (.cst (.int 2)) (.cons (.var 0) .nil))) .nil) .nil)))
 .nop)), []⟩
/-- need_prime -/
def P_need_prime (f_is_prime c_NoPrime : Nat) : Fn := ⟨"need_prime", 1, [], ["prime"],
 (.seq (.ite (.not (.call f_is_prime (.cons (.var 0) .nil) .nil))
  (.seq (.rse c_NoPrime (.cons (.cst (.str "no prime")) .nil))
  .nop)
  .nop)
 .nop), []⟩
/-- noughts_of -/
def P_noughts_of : Fn := ⟨"noughts_of", 2, [], ["rows", "columns"],
 (.seq (.ret (.tup (.cons (.var 0) (.cons (.var 1) (.cons (.bin .mul (.tup (.cons (.bin .mul (.tup (.cons (.cst (.int 0)) .nil)) (.var 1)) .nil)) (.var 0)) .nil)))))
 .nop), []⟩
/-- ones_by -/
def P_ones_by : Fn := ⟨"ones_by", 1, [], ["many", "row", "k"],
 (.seq (.ret (.tup (.cons (.var 0) (.cons (.var 0) (.cons (.blt .tuple (.cons (.comp [1] (.blt .tuple (.cons (.comp [2] (.blt .int (.cons (.cmp .eq (.var 2) (.var 1)) .nil)) (.nm 2) (.itR (.cons (.var 0) .nil)) .nil) .nil)) (.nm 1) (.itR (.cons (.var 0) .nil)) .nil) .nil)) .nil)))))
 .nop), []⟩
/-- is_size -/
def P_is_size (f_is_whole g_MOST : Nat) : Fn := ⟨"is_size", 1, [], ["thing"],
 (.seq (.ret (.and (.cons (.call f_is_whole (.cons (.var 0) .nil) .nil) (.cons (.chn .le .le (.cst (.int 0)) (.var 0) (.glb g_MOST)) .nil))))
 .nop), []⟩
/-- is_row -/
def P_is_row (f_is_whole : Nat) : Fn := ⟨"is_row", 3, [], ["thing", "columns", "prime", "number"],
 (.seq (.ite (.or (.cons (.not (.isi (.var 0) [.tuple])) (.cons (.cmp .ne (.blt .len (.cons (.var 0) .nil)) (.var 1)) .nil)))
  (.seq (.ret (.cst (.bl false)))
  .nop)
  .nop)
 (.seq (.ret (.blt .all (.cons (.comp [3] (.and (.cons (.call f_is_whole (.cons (.var 3) .nil) .nil) (.cons (.chn .le .lt (.cst (.int 0)) (.var 3) (.var 2)) .nil))) (.nm 3) (.itS (.var 0)) .nil) .nil)))
 .nop)), []⟩
/-- has_form -/
def P_has_form (f_is_size f_is_row : Nat) : Fn := ⟨"has_form", 2, [], ["thing", "prime", "row"],
 (.seq (.ite (.or (.cons (.not (.isi (.var 0) [.tuple])) (.cons (.cmp .ne (.blt .len (.cons (.var 0) .nil)) (.cst (.int 3))) (.cons (.not (.call f_is_size (.cons (.sub (.var 0) (.cst (.int 0))) .nil) .nil)) (.cons (.not (.call f_is_size (.cons (.sub (.var 0) (.cst (.int 1))) .nil) .nil)) .nil)))))
  (.seq (.ret (.cst (.bl false)))
  .nop)
  .nop)
 (.seq (.ite (.or (.cons (.not (.isi (.sub (.var 0) (.cst (.int 2))) [.tuple])) (.cons (.cmp .ne (.blt .len (.cons (.sub (.var 0) (.cst (.int 2))) .nil)) (.sub (.var 0) (.cst (.int 0)))) .nil)))
  (.seq (.ret (.cst (.bl false)))
  .nop)
  .nop)
 (.seq (.ret (.blt .all (.cons (.comp [2] (.call f_is_row (.cons (.var 2) (.cons (.sub (.var 0) (.cst (.int 1))) (.cons (.var 1) .nil))) .nil) (.nm 2) (.itS (.sub (.var 0) (.cst (.int 2)))) .nil) .nil)))
 .nop))), []⟩
/-- is_matrix -/
def P_is_matrix (f_need_prime f_has_form : Nat) : Fn := ⟨"is_matrix", 1, ["prime"], ["thing", "prime"],
 (.seq (.xpr (.call f_need_prime (.cons (.var 1) .nil) .nil))
 (.seq (.ret (.call f_has_form (.cons (.var 0) (.cons (.var 1) .nil)) .nil))
 .nop)), []⟩
/-- need_fit -/
def P_need_fit (c_NoFit : Nat) : Fn := ⟨"need_fit", 1, [], ["fits"],
 (.seq (.ite (.not (.var 0))
  (.seq (.rse c_NoFit (.cons (.cst (.str "sizes that don't fit")) .nil))
  .nop)
  .nop)
 .nop), []⟩
/-- ones -/
def P_ones (f_need_fit f_is_size f_ones_by : Nat) : Fn := ⟨"ones", 1, [], ["many"],
 (.seq (.xpr (.call f_need_fit (.cons (.call f_is_size (.cons (.var 0) .nil) .nil) .nil) .nil))
 (.seq (.ret (.call f_ones_by (.cons (.var 0) .nil) .nil))
 .nop)), []⟩
/-- noughts -/
def P_noughts (f_need_fit f_is_size f_noughts_of : Nat) : Fn := ⟨"noughts", 2, [], ["rows", "columns"],
 (.seq (.xpr (.call f_need_fit (.cons (.and (.cons (.call f_is_size (.cons (.var 0) .nil) .nil) (.cons (.call f_is_size (.cons (.var 1) .nil) .nil) .nil))) .nil) .nil))
 (.seq (.ret (.call f_noughts_of (.cons (.var 0) (.cons (.var 1) .nil)) .nil))
 .nop)), []⟩
/-- _law_spread -/
def P_law_spread : Fn := ⟨"_law_spread", 2, [], ["cell", "at", "primes", "mixed", "one", "two", "three"],
 (.seq (.ite (.cmp .ge (.var 0) (.bin .pow (.cst (.int 10)) (.cst (.int 18))))
  (.seq (.ret (.var 0))
  .nop)
  .nop)
 (.seq (.set 2 (.lst (.cons (.cst (.int 2147483629)) (.cons (.cst (.int 2147483587)) (.cons (.cst (.int 2147483579)) (.cons (.cst (.int 2147483563)) (.cons (.cst (.int 2147483549)) (.cons (.cst (.int 2147483543)) (.cons (.cst (.int 2147483497)) .nil)))))))))
 (.seq (.set 2 (.bin .add (.var 2) (.lst (.cons (.cst (.int 2147483489)) (.cons (.cst (.int 2147483477)) (.cons (.cst (.int 2147483423)) (.cons (.cst (.int 2147483399)) (.cons (.cst (.int 2147483353)) (.cons (.cst (.int 2147483323)) .nil)))))))))
 (.seq (.set 3 (.bin .add (.bin .add (.bin .mul (.bin .mod (.var 0) (.cst (.int 1000000007))) (.bin .add (.bin .mul (.cst (.int 2)) (.var 1)) (.cst (.int 69069)))) (.bin .mul (.var 1) (.cst (.int 40503)))) (.cst (.int 977))))
 (.seq (.set 4 (.bin .mod (.bin .pow (.var 3) (.cst (.int 3))) (.sub (.var 2) (.bin .mod (.var 1) (.cst (.int 13))))))
 (.seq (.set 5 (.bin .mod (.bin .pow (.bin .add (.bin .add (.bin .mul (.var 4) (.bin .add (.var 1) (.cst (.int 3)))) (.bin .mod (.var 0) (.cst (.int 65537)))) (.cst (.int 5))) (.cst (.int 5))) (.sub (.var 2) (.bin .mod (.bin .add (.var 1) (.cst (.int 5))) (.cst (.int 13))))))
 (.seq (.set 6 (.bin .mod (.bin .pow (.bin .add (.bin .add (.var 5) (.bin .mod (.var 4) (.cst (.int 1009)))) (.var 1)) (.cst (.int 3))) (.sub (.var 2) (.bin .mod (.bin .add (.var 1) (.cst (.int 7))) (.cst (.int 13))))))
 (.seq (.ret (.bin .add (.bin .mul (.bin .add (.bin .mul (.var 4) (.cst (.int 2147483647))) (.var 5)) (.cst (.int 2147483647))) (.var 6)))
 .nop)))))))), []⟩
/-- _law_open -/
def P_law_open : Fn := ⟨"_law_open", 1, [], ["script", "cells", "k", "cell"],
 (.seq (.own 1 (.blt .list (.cons (.slc (.var 0) .nil (.cst (.int 12))) .nil)))
 (.seq (.for (.tp (.cons (.nm 2) (.cons (.nm 3) .nil))) (.itE (.slc (.var 0) (.cst (.int 12)) (.cst (.int 63))))
  (.seq (.sto 1 (.bin .mod (.var 2) (.cst (.int 12))) (.bin .add (.sub (.var 1) (.bin .mod (.var 2) (.cst (.int 12)))) (.var 3)))
  .nop))
 (.frz 1 (.seq (.retF (.lst (.cons (.var 1) (.cons (.cst (.int 0)) (.cons (.cst (.int 0)) .nil)))))
 .nop)))), []⟩
/-- _law_anew -/
def P_law_anew : Fn := ⟨"_law_anew", 1, [], ["pen"],
 (.seq (.sto 0 (.cst (.int 2)) (.cst (.int 0)))
 (.seq (.ret (.var 0))
 .nop)), []⟩
/-- _law_take -/
def P_law_take (f_law_spread : Nat) : Fn := ⟨"_law_take", 2, [], ["pen", "many", "found", "at", "cell"],
 (.seq (.ite (.cmp .lt (.sub (.var 0) (.cst (.int 2))) (.var 1))
  (.seq (.set 3 (.sub (.var 0) (.cst (.int 1))))
  (.seq (.set 4 (.cst (.int 0)))
  (.seq (.ite (.cmp .lt (.var 3) (.blt .len (.cons (.sub (.var 0) (.cst (.int 0))) .nil)))
   (.seq (.set 4 (.sub (.sub (.var 0) (.cst (.int 0))) (.var 3)))
   .nop)
   (.seq (.ite (.cmp .gt (.blt .len (.cons (.sub (.var 0) (.cst (.int 0))) .nil)) (.cst (.int 0)))
    (.seq (.set 4 (.bin .mod (.sub (.sub (.var 0) (.cst (.int 0))) (.bin .mod (.bin .add (.bin .mul (.var 3) (.cst (.int 5))) (.cst (.int 3))) (.blt .len (.cons (.sub (.var 0) (.cst (.int 0))) .nil)))) (.bin .add (.bin .pow (.cst (.int 10)) (.cst (.int 17))) (.var 3))))
    .nop)
    .nop)
   .nop))
  (.seq (.sto 0 (.cst (.int 1)) (.bin .add (.var 3) (.cst (.int 1))))
  (.seq (.sto 0 (.cst (.int 2)) (.call f_law_spread (.cons (.var 4) (.cons (.var 3) .nil)) .nil))
  .nop)))))
  .nop)
 (.seq (.set 2 (.bin .mod (.sub (.var 0) (.cst (.int 2))) (.var 1)))
 (.seq (.sto 0 (.cst (.int 2)) (.bin .fdiv (.sub (.var 0) (.cst (.int 2))) (.var 1)))
 (.seq (.ret (.var 2))
 .nop)))), []⟩
/-- _law_one -/
def P_law_one (f_law_take : Nat) : Fn := ⟨"_law_one", 2, [], ["pen", "some"],
 (.seq (.ret (.sub (.var 1) (.call f_law_take (.cons (.var 0) (.cons (.blt .len (.cons (.var 1) .nil)) .nil)) .nil)))
 .nop), []⟩
/-- _law_prime -/
def P_law_prime (f_law_one : Nat) : Fn := ⟨"_law_prime", 1, [], ["pen", "every", "p", "k"],
 (.seq (.set 1 (.comp [2] (.var 2) (.nm 2) (.itR (.cons (.cst (.int 2)) (.cons (.cst (.int 98)) .nil))) (.cmp .eq (.comp [3] (.var 3) (.nm 3) (.itR (.cons (.cst (.int 2)) (.cons (.var 2) .nil))) (.cmp .eq (.bin .mod (.var 2) (.var 3)) (.cst (.int 0)))) (.lst .nil))))
 (.seq (.ret (.call f_law_one (.cons (.var 0) (.cons (.lst (.cons (.cst (.int 2)) (.cons (.cst (.int 3)) (.cons (.cst (.int 2)) (.cons (.cst (.int 5)) (.cons (.cst (.int 3)) (.cons (.call f_law_one (.cons (.var 0) (.cons (.var 1) .nil)) .nil) (.cons (.call f_law_one (.cons (.var 0) (.cons (.var 1) .nil)) .nil) .nil)))))))) .nil)) .nil))
 .nop)), []⟩
/-- _law_matrix -/
def P_law_matrix (f_law_take : Nat) : Fn := ⟨"_law_matrix", 4, [], ["pen", "high", "wide", "p", "numbers", "thin", "at", "line", "k"],
 (.seq (.own 4 (.lst .nil))
 (.seq (.set 5 (.call f_law_take (.cons (.var 0) (.cons (.cst (.int 3)) .nil)) .nil))
 (.seq (.for (.nm 6) (.itR (.cons (.var 1) .nil))
  (.seq (.set 7 (.comp [8] (.bin .mul (.call f_law_take (.cons (.var 0) (.cons (.var 3) .nil)) .nil) (.blt .int (.cons (.or (.cons (.cmp .gt (.var 5) (.cst (.int 0))) (.cons (.cmp .eq (.call f_law_take (.cons (.var 0) (.cons (.cst (.int 2)) .nil)) .nil) (.cst (.int 0))) .nil))) .nil))) (.nm 8) (.itR (.cons (.var 2) .nil)) .nil))
  (.seq (.ite (.and (.cons (.cmp .gt (.var 6) (.cst (.int 0))) (.cons (.cmp .eq (.call f_law_take (.cons (.var 0) (.cons (.cst (.int 4)) .nil)) .nil) (.cst (.int 0))) .nil)))
   (.seq (.set 7 (.sub (.var 4) (.neg (.cst (.int 1)))))
   .nop)
   .nop)
  (.seq (.app 4 (.blt .tuple (.cons (.var 7) .nil)))
  .nop))))
 (.seq (.ret (.tup (.cons (.var 1) (.cons (.var 2) (.cons (.blt .tuple (.cons (.var 4) .nil)) .nil)))))
 .nop)))), []⟩
/-- _law_is_matrix -/
def P_law_is_matrix : Fn := ⟨"_law_is_matrix", 2, [], ["thing", "p", "size", "row", "k"],
 (.seq (.ite (.or (.cons (.not (.isi (.var 0) [.tuple])) (.cons (.cmp .ne (.blt .len (.cons (.var 0) .nil)) (.cst (.int 3))) .nil)))
  (.seq (.ret (.cst (.bl false)))
  .nop)
  .nop)
 (.seq (.for (.nm 2) (.itS (.slc (.var 0) .nil (.cst (.int 2))))
  (.seq (.ite (.or (.cons (.isi (.var 2) [.bool]) (.cons (.not (.isi (.var 2) [.int])) (.cons (.not (.chn .le .le (.cst (.int 0)) (.var 2) (.cst (.int 2000)))) .nil))))
   (.seq (.ret (.cst (.bl false)))
   .nop)
   .nop)
  .nop))
 (.seq (.ite (.or (.cons (.not (.isi (.sub (.var 0) (.cst (.int 2))) [.tuple])) (.cons (.cmp .ne (.blt .len (.cons (.sub (.var 0) (.cst (.int 2))) .nil)) (.sub (.var 0) (.cst (.int 0)))) .nil)))
  (.seq (.ret (.cst (.bl false)))
  .nop)
  .nop)
 (.seq (.for (.nm 3) (.itS (.sub (.var 0) (.cst (.int 2))))
  (.seq (.ite (.or (.cons (.not (.isi (.var 3) [.tuple])) (.cons (.cmp .ne (.blt .len (.cons (.var 3) .nil)) (.sub (.var 0) (.cst (.int 1)))) .nil)))
   (.seq (.ret (.cst (.bl false)))
   .nop)
   .nop)
  (.seq (.ite (.cmp .isin (.cst (.bl false)) (.comp [4] (.and (.cons (.isi (.var 4) [.int]) (.cons (.not (.isi (.var 4) [.bool])) (.cons (.chn .le .lt (.cst (.int 0)) (.var 4) (.var 1)) .nil)))) (.nm 4) (.itS (.var 3)) .nil))
   (.seq (.ret (.cst (.bl false)))
   .nop)
   .nop)
  .nop)))
 (.seq (.ret (.cst (.bl true)))
 .nop))))), []⟩
/-- _law_bent -/
def P_law_bent (f_law_take f_law_one : Nat) : Fn := ⟨"_law_bent", 3, [], ["pen", "one", "p", "some", "at", "row", "odd", "rows", "columns", "numbers", "k"],
 (.seq (.tgt (.tp (.cons (.nm 7) (.cons (.nm 8) (.cons (.nm 9) .nil)))) (.var 1))
 (.seq (.own 3 (.lst (.cons (.cst .non) (.cons (.cst (.int 0)) (.cons (.cst (.str "m")) (.cons (.tup .nil) (.cons (.lst (.cons (.var 7) (.cons (.var 8) (.cons (.var 9) .nil)))) (.cons (.tup (.cons (.var 7) (.cons (.var 8) .nil))) (.cons (.tup (.cons (.var 7) (.cons (.var 8) (.cons (.var 9) (.cons (.cst (.int 0)) .nil))))) .nil)))))))))
 (.seq (.app 3 (.tup (.cons (.var 9) (.cons (.var 7) (.cons (.var 8) .nil)))))
 (.seq (.own 3 (.bin .add (.var 3) (.lst (.cons (.tup (.cons (.bin .add (.var 7) (.cst (.int 1))) (.cons (.var 8) (.cons (.var 9) .nil)))) (.cons (.tup (.cons (.var 7) (.cons (.bin .add (.var 8) (.cst (.int 1))) (.cons (.var 9) .nil)))) (.cons (.tup (.cons (.bin .sub (.var 7) (.cst (.int 1))) (.cons (.var 8) (.cons (.var 9) .nil)))) .nil))))))
 (.seq (.own 3 (.bin .add (.var 3) (.lst (.cons (.tup (.cons (.var 7) (.cons (.var 8) (.cons (.blt .list (.cons (.var 9) .nil)) .nil)))) (.cons (.tup (.cons (.var 8) (.cons (.var 7) (.cons (.var 9) .nil)))) (.cons (.tup (.cons (.var 7) (.cons (.var 8) (.cons (.rev (.var 9)) .nil)))) .nil))))))
 (.seq (.own 3 (.bin .add (.var 3) (.lst (.cons (.tup (.cons (.cmp .eq (.var 7) (.cst (.int 1))) (.cons (.var 8) (.cons (.var 9) .nil)))) (.cons (.tup (.cons (.var 7) (.cons (.blt .str (.cons (.var 8) .nil)) (.cons (.var 9) .nil)))) (.cons (.tup (.cons (.var 7) (.cons (.cst .non) (.cons (.var 9) .nil)))) .nil))))))
 (.seq (.own 3 (.bin .add (.var 3) (.bin .mul (.lst (.cons (.tup (.cons (.var 7) (.cons (.cmp .eq (.var 8) (.cst (.int 1))) (.cons (.var 9) .nil)))) .nil)) (.cst (.int 2)))))
 (.seq (.ite (.and (.cons (.cmp .gt (.var 7) (.cst (.int 1))) (.cons (.cmp .gt (.var 8) (.cst (.int 0))) .nil)))
  (.seq (.own 3 (.bin .add (.var 3) (.bin .mul (.lst (.cons (.tup (.cons (.var 7) (.cons (.var 8) (.cons (.bin .add (.tup (.cons (.slc (.sub (.var 9) (.cst (.int 0))) (.cst (.int 1)) .nil) (.cons (.bin .add (.sub (.var 9) (.cst (.int 1))) (.tup (.cons (.cst (.int 0)) .nil))) .nil))) (.slc (.var 9) (.cst (.int 2)) .nil)) .nil)))) .nil)) (.cst (.int 3)))))
  .nop)
  .nop)
 (.seq (.ite (.or (.cons (.cmp .eq (.var 9) (.tup .nil)) (.cons (.cmp .eq (.call f_law_take (.cons (.var 0) (.cons (.cst (.int 2)) .nil)) .nil) (.cst (.int 0))) .nil)))
  (.frz 3 (.seq (.ret (.call f_law_one (.cons (.var 0) (.cons (.var 3) .nil)) .nil))
  .nop))
  .nop)
 (.seq (.set 4 (.call f_law_take (.cons (.var 0) (.cons (.var 7) .nil)) .nil))
 (.seq (.set 5 (.sub (.var 9) (.var 4)))
 (.seq (.set 6 (.lst (.cons (.bin .add (.var 5) (.tup (.cons (.cst (.int 0)) .nil))) (.cons (.slc (.var 5) (.cst (.int 1)) .nil) (.cons (.blt .list (.cons (.var 5) .nil)) (.cons (.cst .non) .nil))))))
 (.seq (.ite (.cmp .gt (.var 8) (.cst (.int 0)))
  (.seq (.set 10 (.call f_law_take (.cons (.var 0) (.cons (.var 8) .nil)) .nil))
  (.seq (.own 3 (.lst (.cons (.var 2) (.cons (.bin .sub (.cst (.int 0)) (.cst (.int 1))) (.cons (.cst (.bl true)) (.cons (.cst (.str "0")) (.cons (.bin .sub (.var 2) (.cst (.int 1))) (.cons (.bin .add (.var 2) (.bin .pow (.cst (.int 10)) (.cst (.int 20)))) (.cons (.cst .non) (.cons (.tup (.cons (.cst (.int 0)) .nil)) (.cons (.cst (.bl false)) .nil)))))))))))
  (.frz 3 (.seq (.set 6 (.bin .add (.var 6) (.bin .mul (.lst (.cons (.bin .add (.bin .add (.slc (.var 5) .nil (.var 10)) (.tup (.cons (.call f_law_one (.cons (.var 0) (.cons (.var 3) .nil)) .nil) .nil))) (.slc (.var 5) (.bin .add (.var 10) (.cst (.int 1))) .nil)) .nil)) (.cst (.int 8)))))
  .nop))))
  .nop)
 (.seq (.set 6 (.bin .add (.var 6) (.lst (.cons (.bin .add (.slc (.var 5) .nil (.neg (.cst (.int 1)))) (.tup (.cons (.cst (.str "0")) .nil))) (.cons (.bin .add (.slc (.var 5) .nil (.neg (.cst (.int 1)))) (.tup (.cons (.bin .sub (.var 2) (.cst (.int 1))) .nil))) (.cons (.bin .add (.slc (.var 5) .nil (.neg (.cst (.int 1)))) (.tup (.cons (.bin .add (.var 2) (.bin .pow (.cst (.int 10)) (.cst (.int 20)))) .nil))) (.cons (.bin .add (.slc (.var 5) .nil (.neg (.cst (.int 1)))) (.tup (.cons (.cst .non) .nil))) .nil)))))))
 (.seq (.ret (.tup (.cons (.var 7) (.cons (.var 8) (.cons (.bin .add (.bin .add (.slc (.var 9) .nil (.var 4)) (.tup (.cons (.call f_law_one (.cons (.var 0) (.cons (.var 6) .nil)) .nil) .nil))) (.slc (.var 9) (.bin .add (.var 4) (.cst (.int 1))) .nil)) .nil)))))
 .nop))))))))))))))), []⟩
/-- _law_refused -/
def P_law_refused (f_is_matrix f_ones f_noughts c_RoomError c_NoMatrix c_NoFit c_NoPrime : Nat) : Fn := ⟨"_law_refused", 3, [], ["way", "thing", "other", "caught", "e"],
 (.seq (.set 3 (.cst .non))
 (.seq (.try (.seq (.ite (.cmp .eq (.var 0) (.cst (.int 0)))
   (.seq (.xpr (.call f_is_matrix (.cons (.var 2) .nil) (.cons (.var 1) .nil)))
   .nop)
   (.seq (.ite (.cmp .eq (.var 0) (.cst (.int 1)))
    (.seq (.xpr (.call f_ones (.cons (.var 1) .nil) .nil))
    .nop)
    (.seq (.xpr (.call f_noughts (.cons (.var 1) (.cons (.var 2) .nil)) .nil))
    .nop))
   .nop))
  .nop) c_RoomError 4 3)
 (.seq (.ret (.lst (.cons (.isi (.var 3) [(.cls c_NoPrime)]) (.cons (.isi (.var 3) [(.cls c_NoFit)]) (.cons (.isi (.var 3) [(.cls c_NoMatrix)]) .nil)))))
 .nop))), []⟩
/-- law -/
def P_law (f_law_open f_law_prime f_law_anew f_law_matrix f_law_take f_is_matrix f_law_bent f_law_is_matrix f_law_one f_law_refused f_noughts f_ones : Nat) : Fn := ⟨"law", 1, [], ["script", "pen", "turn", "size", "p", "one", "k", "bad", "thing", "due", "odd", "some", "handed", "high", "wide", "i"],
 (.seq (.set 1 (.call f_law_open (.cons (.var 0) .nil) .nil))
 (.seq (.for (.nm 2) (.itR (.cons (.cst (.int 4)) .nil))
  (.seq (.set 4 (.call f_law_prime (.cons (.call f_law_anew (.cons (.var 1) .nil) .nil) .nil) .nil))
  (.seq (.set 5 (.call f_law_matrix (.cons (.var 1) (.cons (.call f_law_take (.cons (.var 1) (.cons (.cst (.int 7)) .nil)) .nil) (.cons (.call f_law_take (.cons (.var 1) (.cons (.cst (.int 7)) .nil)) .nil) (.cons (.var 4) .nil)))) .nil))
  (.seq (.ite (.cmp .isnot (.call f_is_matrix (.cons (.var 5) .nil) (.cons (.var 4) .nil)) (.cst (.bl true)))
   (.seq (.ret (.cst (.bl false)))
   .nop)
   .nop)
  (.seq (.for (.nm 6) (.itR (.cons (.cst (.int 5)) .nil))
   (.seq (.set 8 (.call f_law_bent (.cons (.var 1) (.cons (.var 5) (.cons (.var 4) .nil))) .nil))
   (.seq (.set 12 (.blt .repr (.cons (.var 8) .nil)))
   (.seq (.ite (.or (.cons (.cmp .ne (.blt .repr (.cons (.call f_is_matrix (.cons (.var 8) .nil) (.cons (.var 4) .nil)) .nil)) (.blt .repr (.cons (.call f_law_is_matrix (.cons (.var 8) (.cons (.var 4) .nil)) .nil) .nil))) (.cons (.cmp .ne (.blt .repr (.cons (.var 8) .nil)) (.var 12)) .nil)))
    (.seq (.ret (.cst (.bl false)))
    .nop)
    .nop)
   .nop))))
  (.seq (.set 7 (.call f_law_one (.cons (.var 1) (.cons (.lst (.cons (.cst (.int 0)) (.cons (.cst (.int 1)) (.cons (.cst (.int 4)) (.cons (.cst (.int 99)) (.cons (.cst (.int 101)) (.cons (.cst .non) (.cons (.cst (.bl true)) (.cons (.cst (.str "2")) (.cons (.lst (.cons (.cst (.int 2)) .nil)) (.cons (.bin .sub (.cst (.int 0)) (.cst (.int 3))) .nil))))))))))) .nil)) .nil))
  (.seq (.for (.nm 8) (.itS (.lst (.cons (.var 5) (.cons (.call f_law_bent (.cons (.var 1) (.cons (.var 5) (.cons (.var 4) .nil))) .nil) .nil))))
   (.seq (.ite (.cmp .ne (.call f_law_refused (.cons (.cst (.int 0)) (.cons (.var 7) (.cons (.var 8) .nil))) .nil) (.lst (.cons (.cst (.bl true)) (.cons (.cst (.bl false)) (.cons (.cst (.bl false)) .nil)))))
    (.seq (.ret (.cst (.bl false)))
    .nop)
    .nop)
   .nop))
  (.seq (.tgt (.tp (.cons (.nm 13) (.cons (.nm 14) .nil))) (.tup (.cons (.call f_law_take (.cons (.var 1) (.cons (.cst (.int 9)) .nil)) .nil) (.cons (.call f_law_take (.cons (.var 1) (.cons (.cst (.int 9)) .nil)) .nil) .nil))))
  (.seq (.set 9 (.tup (.cons (.var 13) (.cons (.var 14) (.cons (.blt .tuple (.cons (.comp [6] (.bin .mul (.tup (.cons (.cst (.int 0)) .nil)) (.var 14)) (.nm 6) (.itR (.cons (.var 13) .nil)) .nil) .nil)) .nil)))))
  (.seq (.ite (.cmp .ne (.blt .repr (.cons (.call f_noughts (.cons (.var 13) (.cons (.var 14) .nil)) .nil) .nil)) (.blt .repr (.cons (.var 9) .nil)))
   (.seq (.ret (.cst (.bl false)))
   .nop)
   .nop)
  (.seq (.set 9 (.tup (.cons (.var 14) (.cons (.var 14) (.cons (.blt .tuple (.cons (.comp [15] (.blt .tuple (.cons (.comp [6] (.blt .int (.cons (.cmp .eq (.var 15) (.var 6)) .nil)) (.nm 6) (.itR (.cons (.var 14) .nil)) .nil) .nil)) (.nm 15) (.itR (.cons (.var 14) .nil)) .nil) .nil)) .nil)))))
  (.seq (.ite (.cmp .ne (.blt .repr (.cons (.call f_ones (.cons (.var 14) .nil) .nil) .nil)) (.blt .repr (.cons (.var 9) .nil)))
   (.seq (.ret (.cst (.bl false)))
   .nop)
   .nop)
  (.seq (.set 10 (.call f_law_one (.cons (.var 1) (.cons (.lst (.cons (.bin .sub (.cst (.int 0)) (.cst (.int 1))) (.cons (.cst (.int 2001)) (.cons (.cst .non) (.cons (.cst (.bl true)) (.cons (.cst (.str "3")) (.cons (.tup (.cons (.cst (.int 3)) .nil)) (.cons (.bin .pow (.cst (.int 10)) (.cst (.int 30))) (.cons (.lst (.cons (.cst (.int 0)) .nil)) (.cons (.cst (.bl false)) .nil)))))))))) .nil)) .nil))
  (.seq (.set 11 (.lst (.cons (.call f_law_refused (.cons (.cst (.int 1)) (.cons (.var 10) (.cons (.cst (.int 0)) .nil))) .nil) (.cons (.call f_law_refused (.cons (.cst (.int 2)) (.cons (.var 10) (.cons (.var 14) .nil))) .nil) (.cons (.call f_law_refused (.cons (.cst (.int 2)) (.cons (.var 13) (.cons (.var 10) .nil))) .nil) .nil)))))
  (.seq (.ite (.cmp .ne (.var 11) (.bin .mul (.lst (.cons (.lst (.cons (.cst (.bl false)) (.cons (.cst (.bl true)) (.cons (.cst (.bl false)) .nil)))) .nil)) (.cst (.int 3))))
   (.seq (.ret (.cst (.bl false)))
   .nop)
   .nop)
  .nop)))))))))))))))
 (.seq (.for (.nm 3) (.itS (.lst (.cons (.tup (.cons (.cst (.int 2000)) (.cons (.cst (.int 0)) .nil))) (.cons (.tup (.cons (.cst (.int 0)) (.cons (.cst (.int 2000)) .nil))) (.cons (.tup (.cons (.cst (.int 2000)) (.cons (.cst (.int 1)) .nil))) .nil)))))
  (.seq (.ite (.cmp .isnot (.call f_is_matrix (.cons (.call f_noughts (.cons (.sub (.var 3) (.cst (.int 0))) (.cons (.sub (.var 3) (.cst (.int 1))) .nil)) .nil) .nil) (.cons (.cst (.int 2)) .nil)) (.cst (.bl true)))
   (.seq (.ret (.cst (.bl false)))
   .nop)
   .nop)
  .nop))
 (.seq (.ret (.and (.cons (.cmp .is_ (.call f_is_matrix (.cons (.tup (.cons (.cst (.int 2001)) (.cons (.cst (.int 0)) (.cons (.bin .mul (.tup (.cons (.tup .nil) .nil)) (.cst (.int 2001))) .nil)))) .nil) (.cons (.cst (.int 2)) .nil)) (.cst (.bl false))) (.cons (.cmp .is_ (.call f_is_matrix (.cons (.tup (.cons (.cst (.int 0)) (.cons (.cst (.int 2001)) (.cons (.tup .nil) .nil)))) .nil) (.cons (.cst (.int 2)) .nil)) (.cst (.bl false))) .nil))))
 .nop)))), []⟩
end Rp
set_option Elab.async false
set_option linter.all false
set_option maxRecDepth 100000
set_option maxHeartbeats 4000000
/-! What the pen's defs do. -/
namespace Rp
open PySem PySem.Spec Rm
/-- a comprehension without a test whose items tell plain values -/
theorem comp_map {els : Frm → Sto → Out PV} {i : Nat} {fr : Frm} {st : Sto} (hi : i < fr.length) (g : PV → PV) : ∀ (xs acc : List PV), (∀ x ∈ xs, els (fr.set i (some (.val x))) st = .ok (g x) st ∧ keep (g x) = true) →
    compRun els (fun _ st => .ok true st) (.nm i) fr xs acc st = .ok (acc ++ xs.map g) st
  | [], acc, _ => by simp [compRun]
  | x :: xs, acc, h => by
    obtain ⟨h1, h2⟩ := h x (by simp)
    unfold compRun
    simp only [asg, hi, if_true, h1, h2]
    rw [comp_map hi g xs (acc ++ [g x]) fun y hy => h y (List.mem_cons_of_mem _ hy)]
    simp
@[simp] theorem eqF_int (a b : Int) : eqF (.int a) (.int b) = some (decide (a = b)) := by
  simp [eqF, okEq, isDat, dat, PyData.depth, PyData.eqv]
  rfl
theorem boolL_map {α : Type} (f : α → Bool) : ∀ l : List α, boolL (l.map fun x => PV.bl (f x)) = some (l.map f)
  | [] => rfl
  | x :: l => by simp [boolL, boolL_map f l]
@[simp] theorem inRange_eq (i : Int) : (inRange i = true) = (-(2 ^ 62) ≤ i ∧ i < 2 ^ 62) := by simp [inRange]
@[simp] theorem fits_eq (i : Nat) : (fits i = true) = (i ≤ sizeLine) := by simp [fits]
theorem rng2 (a b : Int) (h : -(2 ^ 62) ≤ a ∧ a < 2 ^ 62) (h2 : -(2 ^ 62) ≤ b ∧ b < 2 ^ 62) (h3 : (b - a).toNat ≤ sizeLine) : rngF [.int a, .int b] = some (rangeF a (b - a).toNat) := by
  show (if inRange a = true ∧ inRange b = true ∧ fits (b - a).toNat = true then some (rangeF a (b - a).toNat) else none) = _
  rw [if_pos]
  simp only [inRange_eq, fits_eq]
  exact ⟨h, h2, h3⟩
theorem rng1 (b : Int) (h2 : -(2 ^ 62) ≤ b ∧ b < 2 ^ 62) (h3 : b.toNat ≤ sizeLine) : rngF [.int b] = some (rangeF 0 b.toNat) := by
  show (if inRange b = true ∧ fits b.toNat = true then some (rangeF 0 b.toNat) else none) = _
  rw [if_pos]
  simp only [inRange_eq, fits_eq]
  exact ⟨h2, h3⟩
theorem szl : sizeLine = 16777216 := rfl
theorem dats_ints : ∀ l : List Int, dats (l.map PV.int) = l.map PyData.int
  | [] => rfl
  | x :: l => by simp [dats, dat, dats_ints l]
theorem areDat_ints : ∀ l : List Int, areDat (l.map PV.int) = true
  | [] => rfl
  | x :: l => by simp [areDat, isDat, areDat_ints l]
theorem depth_ints : ∀ l : List Int, PyData.depthAll (l.map PyData.int) = 0
  | [] => rfl
  | x :: l => by simp [PyData.depthAll, PyData.depth, depth_ints l]
theorem okEq_ints (t : Bool) (l : List Int) : okEq (.seq t (l.map PV.int)) = true := by
  cases t <;> simp [okEq, isDat, areDat_ints, dat, dats_ints, PyData.depth, depth_ints]
theorem eqF_nil (l : List Int) : eqF (.seq false (l.map PV.int)) (.seq false []) = some (decide (l = [])) := by
  unfold eqF
  rw [if_pos ⟨okEq_ints false l, okEq_ints false []⟩]
  cases l with
  | nil => rfl
  | cons x l => rfl
/-- a comprehension of the walked items that pass a test -/
theorem comp_filter {cnd : Frm → Sto → Out Bool} {els : Frm → Sto → Out PV} {i : Nat} {fr : Frm} {st : Sto} (hi : i < fr.length) (c : PV → Bool) : ∀ (xs acc : List PV), (∀ x ∈ xs, cnd (fr.set i (some (.val x))) st = .ok (c x) st ∧ els (fr.set i (some (.val x))) st = .ok x st ∧ keep x = true) →
    compRun els cnd (.nm i) fr xs acc st = .ok (acc ++ xs.filter c) st
  | [], acc, _ => by simp [compRun]
  | x :: xs, acc, h => by
    obtain ⟨h1, h2, h3⟩ := h x (by simp)
    unfold compRun
    simp only [asg, hi, if_true, h1]
    cases hc : c x with
    | true =>
      simp only [h2, h3, if_true]
      rw [comp_filter hi c xs (acc ++ [x]) fun y hy => h y (List.mem_cons_of_mem _ hy)]
      simp [hc]
    | false =>
      simp only
      rw [comp_filter hi c xs acc fun y hy => h y (List.mem_cons_of_mem _ hy)]
      simp [hc]
/-- the pen: cells, how many are taken, the rest -/
def pen (cs : List Int) (a z : Int) : Sto := [[.seq false (cs.map .int), .int a, .int z]]
def prs : List Int := [2147483629, 2147483587, 2147483579, 2147483563, 2147483549, 2147483543, 2147483497, 2147483489, 2147483477, 2147483423, 2147483399, 2147483353, 2147483323]
theorem prs_at (a0 : Int) (h0 : 0 ≤ a0) : ∃ q : Int, 2147483322 < q ∧ q < 2147483648 ∧ idxF (.seq false (prs.map .int)) (.int (a0.fmod 13)) = some (.int q) := by
  obtain ⟨a, rfl⟩ : ∃ a : Nat, a0 = (a : Int) := ⟨a0.toNat, by omega⟩
  have h : (a : Int).fmod 13 = ((a % 13 : Nat) : Int) := by
    rw [Int.fmod_eq_emod_of_nonneg _ (by decide)]
    omega
  rw [h]
  have hl : a % 13 < 13 := Nat.mod_lt _ (by decide)
  generalize a % 13 = r at hl
  have key : ∀ r, r < 13 → ∃ q : Int, 2147483322 < q ∧ q < 2147483648 ∧ idxF (.seq false (prs.map .int)) (.int ((r : Nat) : Int)) = some (.int q) := by
    intro r hr
    match r, hr with
    | 0, _ => exact ⟨2147483629, by decide, by decide, rfl⟩
    | 1, _ => exact ⟨2147483587, by decide, by decide, rfl⟩
    | 2, _ => exact ⟨2147483579, by decide, by decide, rfl⟩
    | 3, _ => exact ⟨2147483563, by decide, by decide, rfl⟩
    | 4, _ => exact ⟨2147483549, by decide, by decide, rfl⟩
    | 5, _ => exact ⟨2147483543, by decide, by decide, rfl⟩
    | 6, _ => exact ⟨2147483497, by decide, by decide, rfl⟩
    | 7, _ => exact ⟨2147483489, by decide, by decide, rfl⟩
    | 8, _ => exact ⟨2147483477, by decide, by decide, rfl⟩
    | 9, _ => exact ⟨2147483423, by decide, by decide, rfl⟩
    | 10, _ => exact ⟨2147483399, by decide, by decide, rfl⟩
    | 11, _ => exact ⟨2147483353, by decide, by decide, rfl⟩
    | 12, _ => exact ⟨2147483323, by decide, by decide, rfl⟩
  exact key r hl
theorem fm_rng (x q : Int) (h : 0 < q) : 0 ≤ x.fmod q ∧ x.fmod q < q := ⟨Int.fmod_nonneg_of_pos x h, Int.fmod_lt_of_pos x h⟩
theorem mul_le' {a b c d : Int} (h1 : 0 ≤ a) (h2 : a ≤ c) (h3 : 0 ≤ b) (h4 : b ≤ d) : 0 ≤ a * b ∧ a * b ≤ c * d :=
  ⟨Int.mul_nonneg h1 h3, Int.mul_le_mul h2 h4 h3 (Int.le_trans h1 h2)⟩
theorem bmul (i j : Int) (h : small i = true ∨ small j = true) : binF .mul (.int i) (.int j) = some (.int (i * j)) := if_pos h
theorem bmod (i j : Int) (h : j ≠ 0) : binF .mod (.int i) (.int j) = some (.int (i.fmod j)) := if_pos h
theorem bpow (i j : Int) (h : 0 ≤ j) (h2 : j ≤ 1000000) (h3 : i.natAbs < 2 ^ 64) : binF .pow (.int i) (.int j) = some (.int (i ^ j.toNat)) := if_pos ⟨h, h2, h3⟩
theorem bpow3 (i : Int) (h3 : i.natAbs < 2 ^ 64) : binF .pow (.int i) (.int 3) = some (.int (i ^ 3)) := bpow i 3 (by decide) (by decide) h3
theorem bpow5 (i : Int) (h3 : i.natAbs < 2 ^ 64) : binF .pow (.int i) (.int 5) = some (.int (i ^ 5)) := bpow i 5 (by decide) (by decide) h3
theorem sm {i : Int} (h : 0 ≤ i) (h2 : i < 2 ^ 64) : small i = true := by
  simp only [small, decide_eq_true_eq]
  omega
section
variable (G : Sig) (c m u one two q1 q2 q3 : Int) (a : Int) (st : Sto) (ys : PV) 
theorem v3 (fr : Frm) (h0 : fr[0]? = some (some (.val (.int c)))) (h1 : fr[1]? = some (some (.val (.int a)))) (k0 : binF .mul (.int 2) (.int a) = some (.int (2 * a))) (k1 : binF .mul (.int (c.fmod 1000000007)) (.int (2 * a + 69069)) = some (.int m)) (k2 : binF .mul (.int a) (.int 40503) = some (.int (a * 40503))) : evE G (.bin .add (.bin .add (.bin .mul (.bin .mod (.var 0) (.cst (.int 1000000007))) (.bin .add (.bin .mul (.cst (.int 2)) (.var 1)) (.cst (.int 69069)))) (.bin .mul (.var 1) (.cst (.int 40503)))) (.cst (.int 977))) fr st = .ok (.int (m + a * 40503 + 977)) st := by
  have d1 := bmod c 1000000007 (by decide)
  have ad : ∀ i j : Int, binF .add (.int i) (.int j) = some (.int (i + j)) := fun _ _ => rfl
  simp only [zevE_bin, zevE_var, zevE_cst, Out.bind_ok, deref_int, Out.of_some, h0, h1, d1, k0, ad, k1, k2]
theorem v4 (fr : Frm) (h3 : fr[3]? = some (some (.val (.int m)))) (h1 : fr[1]? = some (some (.val (.int a)))) (h2 : fr[2]? = some (some (.val ys))) (k3 : binF .pow (.int m) (.int 3) = some (.int (m ^ 3))) (e1 : idxF ys (.int (a.fmod 13)) = some (.int q1)) (dy : ∀ fr st, deref fr st ys = ys)
   (k4 : binF .mod (.int (m ^ 3)) (.int q1) = some (.int one)) : evE G (.bin .mod (.bin .pow (.var 3) (.cst (.int 3))) (.sub (.var 2) (.bin .mod (.var 1) (.cst (.int 13))))) fr st = .ok (.int one) st := by
  have d2 := bmod a 13 (by decide)
  simp [h3, h1, h2, k3, d2, dy, e1, k4]
theorem v5 (fr : Frm) (h0 : fr[0]? = some (some (.val (.int c)))) (h1 : fr[1]? = some (some (.val (.int a)))) (h2 : fr[2]? = some (some (.val ys))) (h4 : fr[4]? = some (some (.val (.int one)))) (k5 : binF .mul (.int one) (.int (a + 3)) = some (.int u)) (k6 : binF .pow (.int (u + c.fmod 65537 + 5)) (.int 5) = some (.int ((u + c.fmod 65537 + 5) ^ 5)))
   (e2 : idxF ys (.int ((a + 5).fmod 13)) = some (.int q2)) (dy : ∀ fr st, deref fr st ys = ys) (k7 : binF .mod (.int ((u + c.fmod 65537 + 5) ^ 5)) (.int q2) = some (.int two)) :
   evE G (.bin .mod (.bin .pow (.bin .add (.bin .add (.bin .mul (.var 4) (.bin .add (.var 1) (.cst (.int 3)))) (.bin .mod (.var 0) (.cst (.int 65537)))) (.cst (.int 5))) (.cst (.int 5))) (.sub (.var 2) (.bin .mod (.bin .add (.var 1) (.cst (.int 5))) (.cst (.int 13))))) fr st = .ok (.int two) st := by
  have d5 := bmod c 65537 (by decide)
  have d3 := bmod (a + 5) 13 (by decide)
  have ad : ∀ i j : Int, binF .add (.int i) (.int j) = some (.int (i + j)) := fun _ _ => rfl
  simp [h0, h1, h2, h4, k5, k6, d3, d5, dy, e2, k7, ad]
theorem v6 (fr : Frm) (h1 : fr[1]? = some (some (.val (.int a)))) (h2 : fr[2]? = some (some (.val ys))) (h4 : fr[4]? = some (some (.val (.int one)))) (h5 : fr[5]? = some (some (.val (.int two)))) (k8 : binF .pow (.int (two + one.fmod 1009 + a)) (.int 3) = some (.int ((two + one.fmod 1009 + a) ^ 3)))
   (e3 : idxF ys (.int ((a + 7).fmod 13)) = some (.int q3)) (dy : ∀ fr st, deref fr st ys = ys) (k9 : binF .mod (.int ((two + one.fmod 1009 + a) ^ 3)) (.int q3) = some (.int u)) :
   evE G (.bin .mod (.bin .pow (.bin .add (.bin .add (.var 5) (.bin .mod (.var 4) (.cst (.int 1009)))) (.var 1)) (.cst (.int 3))) (.sub (.var 2) (.bin .mod (.bin .add (.var 1) (.cst (.int 7))) (.cst (.int 13))))) fr st = .ok (.int u) st := by
  have d6 := bmod one 1009 (by decide)
  have d4 := bmod (a + 7) 13 (by decide)
  have ad : ∀ i j : Int, binF .add (.int i) (.int j) = some (.int (i + j)) := fun _ _ => rfl
  simp [h1, h2, h4, h5, k8, k9, d4, d6, dy, e3, ad]
theorem v7 (fr : Frm) (h4 : fr[4]? = some (some (.val (.int one)))) (h5 : fr[5]? = some (some (.val (.int two)))) (h6 : fr[6]? = some (some (.val (.int u)))) : evE G (.bin .add (.bin .mul (.bin .add (.bin .mul (.var 4) (.cst (.int 2147483647))) (.var 5)) (.cst (.int 2147483647))) (.var 6)) fr st = .ok (.int ((one * 2147483647 + two) * 2147483647 + u)) st := by
  have k10 := bmul one 2147483647 (.inr rfl)
  have k11 := bmul (one * 2147483647 + two) 2147483647 (.inr rfl)
  have ad : ∀ i j : Int, binF .add (.int i) (.int j) = some (.int (i + j)) := fun _ _ => rfl
  simp [h4, h5, h6, k10, k11, ad]
end
theorem spread_ok (G : Sig) (c a : Int) (st : Sto) (h0 : 0 ≤ a) (ha : a < 100000) : ∃ z : Int, runFn G P_law_spread [.int c, .int a] st = .ok (.int z) st := by
  have p18 : binF .pow (.int 10) (.int 18) = some (.int 1000000000000000000) := rfl
  by_cases hc : 1000000000000000000 ≤ c
  · exact ⟨c, by simp [runFn, P_law_spread, startF, evT, p18, cmpF, hc, truF, outR]⟩
  · obtain ⟨q1, a1, b1, e1⟩ := prs_at a h0
    obtain ⟨q2, a2, b2, e2⟩ := prs_at (a + 5) (by omega)
    obtain ⟨q3, a3, b3, e3⟩ := prs_at (a + 7) (by omega)
    have m1 := fm_rng c 1000000007 (by decide)
    have m2 := fm_rng c 65537 (by decide)
    have k0 := bmul 2 a (.inl rfl)
    have k1 := bmul (c.fmod 1000000007) (2 * a + 69069) (.inl (sm m1.1 (by omega)))
    have k2 := bmul a 40503 (.inr rfl)
    have r1 := mul_le' m1.1 (Int.le_of_lt m1.2) (b := 2 * a + 69069) (d := 269069) (by omega) (by omega)
    generalize hm : c.fmod 1000000007 * (2 * a + 69069) = m at r1 k1
    have k3 := bpow3 (m + a * 40503 + 977) (by omega)
    have k4 := bmod ((m + a * 40503 + 977) ^ 3) q1 (by omega)
    have o1 := fm_rng ((m + a * 40503 + 977) ^ 3) q1 (by omega)
    generalize ho : ((m + a * 40503 + 977) ^ 3).fmod q1 = one at o1 k4
    have k5 := bmul one (a + 3) (.inl (sm o1.1 (by omega)))
    have r2 := mul_le' o1.1 (show one ≤ 2147483648 by omega) (b := a + 3) (d := 100003) (by omega) (by omega)
    generalize hu : one * (a + 3) = u at r2 k5
    have k6 := bpow5 (u + c.fmod 65537 + 5) (by omega)
    have k7 := bmod ((u + c.fmod 65537 + 5) ^ 5) q2 (by omega)
    have o2 := fm_rng ((u + c.fmod 65537 + 5) ^ 5) q2 (by omega)
    generalize ht : ((u + c.fmod 65537 + 5) ^ 5).fmod q2 = two at o2 k7
    have o3 := fm_rng one 1009 (by decide)
    have k8 := bpow3 (two + one.fmod 1009 + a) (by omega)
    have k9 := bmod ((two + one.fmod 1009 + a) ^ 3) q3 (by omega)
    generalize hw : ((two + one.fmod 1009 + a) ^ 3).fmod q3 = w at k9
    have pl : ∃ ys, binF .add (.seq false [.int 2147483629, .int 2147483587, .int 2147483579, .int 2147483563, .int 2147483549, .int 2147483543, .int 2147483497]) (.seq false [.int 2147483489, .int 2147483477, .int 2147483423, .int 2147483399, .int 2147483353, .int 2147483323]) = some ys ∧ ys = .seq false (prs.map .int) := ⟨_, rfl, rfl⟩
    obtain ⟨ys, pl1, pl2⟩ := pl
    have ky : keep ys = true := by rw [pl2]; rfl
    have dy : ∀ fr st, deref fr st ys = ys := by rw [pl2]; intros; rfl
    rw [← pl2] at e1 e2 e3
    clear pl2
    have hb : exS G P_law_spread.body [some (.val (.int c)), some (.val (.int a)), none, none, none, none, none] st = .rt (.int ((one * 2147483647 + two) * 2147483647 + w)) st := by
      dsimp only [P_law_spread]
      rw [seq_itF (st' := st) (by simp [evT, p18, cmpF, hc, truF])]
      rw [seq_set (st' := st) (p := .seq false [.int 2147483629, .int 2147483587, .int 2147483579, .int 2147483563, .int 2147483549, .int 2147483543, .int 2147483497]) (by simp [szl]) rfl (by simp)]
      rw [seq_set (st' := st) (p := ys) (by simp [szl, pl1]) ky (by simp)]
      rw [seq_set (st' := st) (p := .int (m + a * 40503 + 977)) (v3 G c m a st _ (by simp) (by simp) k0 k1 k2) rfl (by simp)]
      rw [seq_set (st' := st) (p := .int one) (v4 G (m + a * 40503 + 977) one q1 a st ys _ (by simp) (by simp) (by simp) k3 e1 dy k4) rfl (by simp)]
      rw [seq_set (st' := st) (p := .int two) (v5 G c u one two q2 a st ys _ (by simp) (by simp) (by simp) (by simp) k5 k6 e2 dy k7) rfl (by simp)]
      rw [seq_set (st' := st) (p := .int w) (v6 G w one two q3 a st ys _ (by simp) (by simp) (by simp) (by simp) k8 e3 dy k9) rfl (by simp)]
      rw [seq_ret (st' := st) (v7 G w one two st _ (by simp) (by simp) (by simp)) rfl]
    refine ⟨(one * 2147483647 + two) * 2147483647 + w, ?_⟩
    show outR (exS G P_law_spread.body [some (.val (.int c)), some (.val (.int a)), none, none, none, none, none] st) = _
    rw [hb]
    rfl
end Rp
set_option Elab.async false
set_option linter.all false
set_option maxRecDepth 100000
set_option maxHeartbeats 4000000
/-! What the pen's defs do: take, one, open, anew. -/
namespace Rp
open PySem PySem.Spec Rm
/-- what a call of spread tells -/
def SpreadOk (G : Sig) (f : Nat) : Prop := ∀ (c a : Int) (st : Sto), 0 ≤ a → a < 100000 → ∃ z : Int, G.call f [.int c, .int a] st = .ok (.int z) st
theorem at_get {xs : List PV} {i : Int} {j : Nat} {p : PV} (t : Bool) (h : i = (j : Int)) (hp : xs[j]? = some p) : idxF (.seq t xs) (.int i) = some p := by
  have hj : j < xs.length := (List.getElem?_eq_some_iff.mp hp).1
  show L2.atI xs i = some p
  unfold L2.atI L2.ixN
  rw [if_pos (by omega), if_pos (by omega)]
  show xs[i.toNat]? = some p
  rw [show i.toNat = j by omega]
  exact hp
theorem at_in (cs : List Int) (i : Int) (h0 : 0 ≤ i) (h : i < cs.length) : ∃ c : Int, idxF (.seq false (cs.map .int)) (.int i) = some (.int c) := by
  have hj : i.toNat < cs.length := by omega
  exact ⟨cs[i.toNat], at_get false (j := i.toNat) (by omega) (by simp [hj])⟩
section
variable (cs : List Int) (a z : Int) (fr : Frm)
@[simp] theorem pd : deref fr (pen cs a z) (.ref 0) = .seq false [.seq false (cs.map .int), .int a, .int z] := rfl
@[simp] theorem p0 (x y w : PV) : idxF (.seq false [x, y, w]) (.int 0) = some x := rfl
@[simp] theorem p1 (x y w : PV) : idxF (.seq false [x, y, w]) (.int 1) = some y := rfl
@[simp] theorem p2 (x y w : PV) : idxF (.seq false [x, y, w]) (.int 2) = some w := rfl
@[simp] theorem plen (xs : List PV) : bltF .len [.seq false xs] = some (.int xs.length) := rfl
theorem pslot (h : fr[0]? = some (some (.val (.ref 0)))) : lstSlot fr (pen cs a z) 0 = true := by
  unfold lstSlot
  rw [h]
  rfl
theorem pw2 (h : fr[0]? = some (some (.val (.ref 0)))) (v : Int) : wrF fr (pen cs a z) 0 (stoF (.int 2) (.int v)) = .nx fr (pen cs a v) := by
  unfold wrF
  rw [h]
  rfl
theorem pw1 (h : fr[0]? = some (some (.val (.ref 0)))) (v : Int) : wrF fr (pen cs a z) 0 (stoF (.int 1) (.int v)) = .nx fr (pen cs v z) := by
  unfold wrF
  rw [h]
  rfl
end
def takeTail : S := .seq (.set 2 (.bin .mod (.sub (.var 0) (.cst (.int 2))) (.var 1)))
 (.seq (.sto 0 (.cst (.int 2)) (.bin .fdiv (.sub (.var 0) (.cst (.int 2))) (.var 1)))
 (.seq (.ret (.var 2))
 .nop))
theorem take_tail (G : Sig) (cs : List Int) (a z many : Int) (x y w : Option FV) (h1 : 1 ≤ many) (h2 : many < 1073741824) :
    exS G takeTail [some (.val (.ref 0)), some (.val (.int many)), x, y, w] (pen cs a z) = .rt (.int (z.fmod many)) (pen cs a (z.fdiv many)) := by
  have d1 := bmod z many (by omega)
  have d2 : binF .fdiv (.int z) (.int many) = some (.int (z.fdiv many)) := if_pos ⟨by omega, by omega⟩
  unfold takeTail
  rw [seq_set (st' := pen cs a z) (p := .int (z.fmod many)) (by simp [d1]) rfl (by simp)]
  simp [d2, pslot, pw2]
def takeHead (f : Nat) : S := .seq (.set 3 (.sub (.var 0) (.cst (.int 1))))
  (.seq (.set 4 (.cst (.int 0)))
  (.seq (.ite (.cmp .lt (.var 3) (.blt .len (.cons (.sub (.var 0) (.cst (.int 0))) .nil)))
   (.seq (.set 4 (.sub (.sub (.var 0) (.cst (.int 0))) (.var 3)))
   .nop)
   (.seq (.ite (.cmp .gt (.blt .len (.cons (.sub (.var 0) (.cst (.int 0))) .nil)) (.cst (.int 0)))
    (.seq (.set 4 (.bin .mod (.sub (.sub (.var 0) (.cst (.int 0))) (.bin .mod (.bin .add (.bin .mul (.var 3) (.cst (.int 5))) (.cst (.int 3))) (.blt .len (.cons (.sub (.var 0) (.cst (.int 0))) .nil)))) (.bin .add (.bin .pow (.cst (.int 10)) (.cst (.int 17))) (.var 3))))
    .nop)
    .nop)
   .nop))
  (.seq (.sto 0 (.cst (.int 1)) (.bin .add (.var 3) (.cst (.int 1))))
  (.seq (.sto 0 (.cst (.int 2)) (.call f (.cons (.var 4) (.cons (.var 3) .nil)) .nil))
  .nop))))
theorem take_head (G : Sig) (f : Nat) (hs : SpreadOk G f) (cs : List Int) (a z many : Int) (h0 : 0 ≤ a) (h1 : a < 99990) :
    ∃ (y w : Option FV) (v : Int), exS G (takeHead f) [some (.val (.ref 0)), some (.val (.int many)), none, none, none] (pen cs a z) = .nx [some (.val (.ref 0)), some (.val (.int many)), none, y, w] (pen cs (a + 1) v) := by
  have ad : ∀ i j : Int, binF .add (.int i) (.int j) = some (.int (i + j)) := fun _ _ => rfl
  -- the cell
  have cell : ∃ c : Int, exS G (.ite (.cmp .lt (.var 3) (.blt .len (.cons (.sub (.var 0) (.cst (.int 0))) .nil)))
   (.seq (.set 4 (.sub (.sub (.var 0) (.cst (.int 0))) (.var 3)))
   .nop)
   (.seq (.ite (.cmp .gt (.blt .len (.cons (.sub (.var 0) (.cst (.int 0))) .nil)) (.cst (.int 0)))
    (.seq (.set 4 (.bin .mod (.sub (.sub (.var 0) (.cst (.int 0))) (.bin .mod (.bin .add (.bin .mul (.var 3) (.cst (.int 5))) (.cst (.int 3))) (.blt .len (.cons (.sub (.var 0) (.cst (.int 0))) .nil)))) (.bin .add (.bin .pow (.cst (.int 10)) (.cst (.int 17))) (.var 3))))
    .nop)
    .nop)
   .nop)) [some (.val (.ref 0)), some (.val (.int many)), none, some (.val (.int a)), some (.val (.int 0))] (pen cs a z) = .nx [some (.val (.ref 0)), some (.val (.int many)), none, some (.val (.int a)), some (.val (.int c))] (pen cs a z) := by
    by_cases hl : a < cs.length
    · obtain ⟨c, hc⟩ := at_in cs a h0 hl
      exact ⟨c, by simp [evT, cmpF, truF, hl, hc, setF, Res.ofF]⟩
    · by_cases hp : 0 < cs.length
      · have hp' : (0 : Int) < cs.length := by omega
        have m5 := bmul a 5 (.inr rfl)
        have md := bmod (a * 5 + 3) cs.length (by omega)
        have rg := fm_rng (a * 5 + 3) cs.length hp'
        obtain ⟨c, hc⟩ := at_in cs _ rg.1 rg.2
        have p17 : binF .pow (.int 10) (.int 17) = some (.int 100000000000000000) := rfl
        have m6 := bmod c (100000000000000000 + a) (by omega)
        refine ⟨c.fmod (100000000000000000 + a), ?_⟩
        simp [evT, cmpF, truF, hl, hp, m5, ad, md, hc, p17, m6, setF, Res.ofF]
      · exact ⟨0, by simp [evT, cmpF, truF, hl, hp]⟩
  obtain ⟨c, hc⟩ := cell
  obtain ⟨v, hv⟩ := hs c a (pen cs (a + 1) z) h0 (by omega)
  refine ⟨some (.val (.int a)), some (.val (.int c)), v, ?_⟩
  unfold takeHead
  rw [seq_set (st' := pen cs a z) (p := .int a) (by simp) rfl (by simp), seq_set (st' := pen cs a z) (p := .int 0) (by simp) rfl (by simp)]
  have := hc
  rw [zexS_seq]
  show Res.then (exS G _ [some (.val (.ref 0)), some (.val (.int many)), none, some (.val (.int a)), some (.val (.int 0))] (pen cs a z)) _ = _
  rw [hc]
  simp [ad, pslot, pw1, pw2, hv]
/-- what a call of take tells -/
def TakeOk (G : Sig) (f : Nat) : Prop := ∀ (cs : List Int) (a z many : Int), 0 ≤ a → a < 99990 → 1 ≤ many → many < 1073741824 →
  ∃ (r a' v : Int), G.call f [.ref 0, .int many] (pen cs a z) = .ok (.int r) (pen cs a' v) ∧ 0 ≤ r ∧ r < many ∧ a ≤ a' ∧ a' ≤ a + 1
theorem take_run (G : Sig) (f : Nat) (hs : SpreadOk G f) (cs : List Int) (a z many : Int) (h0 : 0 ≤ a) (h1 : a < 99990) (h2 : 1 ≤ many) (h3 : many < 1073741824) :
    ∃ (r a' v : Int), runFn G (P_law_take f) [.ref 0, .int many] (pen cs a z) = .ok (.int r) (pen cs a' v) ∧ 0 ≤ r ∧ r < many ∧ a ≤ a' ∧ a' ≤ a + 1 := by
  have body : (P_law_take f).body = .seq (.ite (.cmp .lt (.sub (.var 0) (.cst (.int 2))) (.var 1)) (takeHead f) .nop) takeTail := rfl
  have st0 : startF (P_law_take f).N ([.ref 0, .int many] ++ (P_law_take f).df) = [some (.val (.ref 0)), some (.val (.int many)), none, none, none] := rfl
  by_cases hz : z < many
  · obtain ⟨y, w, v, hh⟩ := take_head G f hs cs a z many h0 h1
    have rg := fm_rng v many (by omega)
    refine ⟨v.fmod many, a + 1, v.fdiv many, ?_, rg.1, rg.2, by omega, by omega⟩
    have : exS G (P_law_take f).body (startF (P_law_take f).N ([.ref 0, .int many] ++ (P_law_take f).df)) (pen cs a z) = .rt (.int (v.fmod many)) (pen cs (a + 1) (v.fdiv many)) := by
      rw [body, st0, seq_itT (st' := pen cs a z) (by simp [evT, cmpF, truF, hz]), hh]
      exact take_tail G cs (a + 1) v many none y w h2 h3
    show outR (exS G (P_law_take f).body (startF (P_law_take f).N ([.ref 0, .int many] ++ (P_law_take f).df)) (pen cs a z)) = _
    rw [this]
    rfl
  · have rg := fm_rng z many (by omega)
    refine ⟨z.fmod many, a, z.fdiv many, ?_, rg.1, rg.2, by omega, by omega⟩
    have : exS G (P_law_take f).body (startF (P_law_take f).N ([.ref 0, .int many] ++ (P_law_take f).df)) (pen cs a z) = .rt (.int (z.fmod many)) (pen cs a (z.fdiv many)) := by
      rw [body, st0, seq_itF (st' := pen cs a z) (by simp [evT, cmpF, truF, hz])]
      exact take_tail G cs a z many none none none h2 h3
    show outR (exS G (P_law_take f).body (startF (P_law_take f).N ([.ref 0, .int many] ++ (P_law_take f).df)) (pen cs a z)) = _
    rw [this]
    rfl
theorem anew_run (G : Sig) (cs : List Int) (a z : Int) : runFn G P_law_anew [.ref 0] (pen cs a z) = .ok (.ref 0) (pen cs a 0) := by
  simp [runFn, P_law_anew, startF, pslot, pw2, outR]
/-- what a call of one tells -/
def OneOk (G : Sig) (f : Nat) : Prop := ∀ (cs : List Int) (a z : Int) (xs : List PV), 0 ≤ a → a < 99990 → xs ≠ [] → xs.length < 1000000 → keepAll xs = true →
  ∃ (p : PV) (a' v : Int), G.call f [.ref 0, .seq false xs] (pen cs a z) = .ok p (pen cs a' v) ∧ p ∈ xs ∧ a ≤ a' ∧ a' ≤ a + 1
theorem one_run (G : Sig) (f : Nat) (ht : TakeOk G f) (cs : List Int) (a z : Int) (xs : List PV) (h0 : 0 ≤ a) (h1 : a < 99990) (h2 : xs ≠ []) (h3 : xs.length < 1000000) (hk : keepAll xs = true) :
    ∃ (p : PV) (a' v : Int), runFn G (P_law_one f) [.ref 0, .seq false xs] (pen cs a z) = .ok p (pen cs a' v) ∧ p ∈ xs ∧ a ≤ a' ∧ a' ≤ a + 1 := by
  have hl : 0 < xs.length := List.length_pos_iff.mpr h2
  obtain ⟨r, a', v, e, r0, r1, b0, b1⟩ := ht cs a z xs.length h0 h1 (by omega) (by omega)
  have hj : r.toNat < xs.length := by omega
  have hx : idxF (.seq false xs) (.int r) = some xs[r.toNat] := at_get false (j := r.toNat) (by omega) (by simp [hj])
  have hm : xs[r.toNat] ∈ xs := List.getElem_mem hj
  have hkp : keep xs[r.toNat] = true := List.all_eq_true.mp hk _ hm
  refine ⟨xs[r.toNat], a', v, ?_, hm, b0, b1⟩
  simp [runFn, P_law_one, startF, e, hx, hkp, outR]
/-- the cells grow by the later numbers -/
theorem open_loop (G : Sig) (sc : List Int) : ∀ (xs : List Int) (k : Nat) (cs : List Int) (x y : Option FV) (st : Sto), (xs ≠ [] → cs.length = 12) →
    ∃ (ds : List Int) (x' y' : Option FV), forRun (.tp (.cons (.nm 2) (.cons (.nm 3) .nil))) (exS G (.seq (.sto 1 (.bin .mod (.var 2) (.cst (.int 12))) (.bin .add (.sub (.var 1) (.bin .mod (.var 2) (.cst (.int 12)))) (.var 3))) .nop)) (enumF k (xs.map .int))
      [some (.val (.scr (sc.map .int))), some (.own (cs.map .int)), x, y] st = .nx [some (.val (.scr (sc.map .int))), some (.own (ds.map .int)), x', y'] st ∧ ds.length = cs.length
  | [], k, cs, x, y, st, _ => ⟨cs, x, y, rfl, rfl⟩
  | c :: xs, k, cs, x, y, st, h => by
    have hl : cs.length = 12 := h (by simp)
    have kk : ((k : Int)).fmod 12 = ((k % 12 : Nat) : Int) := by
      rw [Int.fmod_eq_emod_of_nonneg _ (by decide)]
      omega
    have hj : k % 12 < cs.length := by
      rw [hl]
      exact Nat.mod_lt _ (by decide)
    have md := bmod (k : Int) 12 (by decide)
    rw [kk] at md
    generalize hK : ((k : Nat) : Int) = K at md
    have hget : idxF (.seq false (cs.map .int)) (.int ((k % 12 : Nat) : Int)) = some (.int cs[k % 12]) := at_get false rfl (by simp [hj])
    generalize hJ : k % 12 = j at hj md hget
    have ad : ∀ i j : Int, binF .add (.int i) (.int j) = some (.int (i + j)) := fun _ _ => rfl
    have hst : stoF (.int (j : Int)) (.int (cs[j] + c)) (cs.map .int) = some ((cs.set j (cs[j] + c)).map .int) := by
      show (L2.ixN (cs.map PV.int).length (j : Int)).map (fun q => (cs.map PV.int).set q (.int (cs[j] + c))) = _
      unfold L2.ixN
      rw [if_pos (by omega), if_pos (by rw [List.length_map]; omega)]
      simp [List.map_set]
    obtain ⟨ds, x', y', ih, ihl⟩ := open_loop G sc xs (k + 1) (cs.set j (cs[j] + c)) (some (.val (.int K))) (some (.val (.int c))) st (fun _ => by rw [List.length_set]; exact hl)
    refine ⟨ds, x', y', ?_, by rw [ihl, List.length_set]⟩
    rw [List.map_cons]
    unfold enumF forRun
    rw [hK]
    have a1 : asg (.tp (.cons (.nm 2) (.cons (.nm 3) .nil))) (.seq true [.int K, .int c]) [some (.val (.scr (sc.map .int))), some (.own (cs.map .int)), x, y] = some [some (.val (.scr (sc.map .int))), some (.own (cs.map .int)), some (.val (.int K)), some (.val (.int c))] := by
      simp [asg, asgL]
    rw [a1]
    have b1 : exS G (.seq (.sto 1 (.bin .mod (.var 2) (.cst (.int 12))) (.bin .add (.sub (.var 1) (.bin .mod (.var 2) (.cst (.int 12)))) (.var 3))) .nop) [some (.val (.scr (sc.map .int))), some (.own (cs.map .int)), some (.val (.int K)), some (.val (.int c))] st =
        .nx [some (.val (.scr (sc.map .int))), some (.own ((cs.set j (cs[j] + c)).map .int)), some (.val (.int K)), some (.val (.int c))] st := by
      have dl : ∀ fr : Frm, fr[1]? = some (some (.own (cs.map .int))) → deref fr st (.loc 1) = .seq false (cs.map .int) := fun fr h => by
        simp only [deref, h]
      simp [lstSlot, md, dl, hget, ad, wrF, hst]
    simp only [b1]
    exact ih
theorem open_run (G : Sig) (ns : List Int) : ∃ cs : List Int, runFn G P_law_open [.scr (ns.map .int)] [] = .ok (.ref 0) (pen cs 0 0) := by
  obtain ⟨ds, x', y', hl, _⟩ := open_loop G ns ((ns.drop 12).take 51) 0 (ns.take 12) none none [] (fun h => by
    have : 12 ≤ ns.length := by
      apply Classical.byContradiction
      intro z
      apply h
      rw [List.drop_eq_nil_of_le (by omega)]
      rfl
    rw [List.length_take]
    omega)
  refine ⟨ds, ?_⟩
  have c1 : cutF none (some 12) (.scr (ns.map .int)) = some (.seq false ((ns.take 12).map .int)) := by
    show some (PV.seq false (((ns.map PV.int).drop (HT.sIx (ns.map PV.int).length 0 none)).take (HT.sIx (ns.map PV.int).length (ns.map PV.int).length (some 12) - HT.sIx (ns.map PV.int).length 0 none))) = _
    rw [HT.sIx_none, show HT.sIx (ns.map PV.int).length (ns.map PV.int).length (some 12) = min 12 (ns.map PV.int).length from HT.sIx_nat _ _ 12]
    rw [List.drop_zero, Nat.sub_zero, List.length_map]
    congr 2
    rw [← List.map_take]
    congr 1
    by_cases h : ns.length ≤ 12
    · rw [Nat.min_eq_right h, List.take_length, List.take_of_length_le h]
    · rw [Nat.min_eq_left (by omega)]
  have c2 : cutF (some 12) (some 63) (.scr (ns.map .int)) = some (.seq false (((ns.drop 12).take 51).map .int)) := by
    show some (PV.seq false (((ns.map PV.int).drop (HT.sIx (ns.map PV.int).length 0 (some 12))).take (HT.sIx (ns.map PV.int).length (ns.map PV.int).length (some 63) - HT.sIx (ns.map PV.int).length 0 (some 12)))) = _
    rw [show HT.sIx (ns.map PV.int).length (ns.map PV.int).length (some 63) = min 63 (ns.map PV.int).length from HT.sIx_nat _ _ 63, show HT.sIx (ns.map PV.int).length 0 (some 12) = min 12 (ns.map PV.int).length from HT.sIx_nat _ _ 12]
    rw [List.length_map]
    congr 2
    rw [← List.map_drop, ← List.map_take]
    congr 1
    by_cases h : ns.length ≤ 12
    · rw [Nat.min_eq_right h, List.drop_eq_nil_of_le h, List.drop_length]
      simp
    · rw [Nat.min_eq_left (by omega : 12 ≤ ns.length)]
      by_cases h2 : ns.length ≤ 63
      · rw [Nat.min_eq_right h2, List.take_of_length_le (by rw [List.length_drop]; omega), List.take_of_length_le (by rw [List.length_drop]; omega)]
      · rw [Nat.min_eq_left (by omega)]
  have l1 : ∀ xs : List PV, bltF .list [.seq false xs] = some (.seq false xs) := fun _ => rfl
  have o1 : ∀ (i : Int) (fr : Frm) (st : Sto), evO G (.cst (.int i)) fr st = .ok (some i) st := fun i fr st => rfl
  simp [runFn, P_law_open, startF, c1, c2, l1, o1, ownF, Res.ofF, seqF]
  rw [← List.map_take, ← List.map_drop, ← List.map_take, hl]
  simp [frzF, outR]
  rfl
end Rp
set_option Elab.async false
set_option linter.all false
set_option maxRecDepth 100000
set_option maxHeartbeats 4000000
/-! Small data: what compares and what has a text. -/
namespace Rp
open PySem PySem.Spec Rm
def okS (x : Str) : Bool := decide ((reprText x).length ≤ 12) && PyData.strOk (reprText x) && PyData.canLay0 (.str x)
mutual
def wt : PV → Nat
  | .seq _ xs => 4 + wts xs
  | _ => 36
def wts : List PV → Nat
  | [] => 0
  | x :: xs => wt x + 2 + wts xs
end
mutual
def sml : PV → Bool
  | .non | .bl _ => true
  | .int i => decide (i.natAbs < 10 ^ 34)
  | .str x => okS x
  | .seq _ xs => smls xs
  | _ => false
def smls : List PV → Bool
  | [] => true
  | x :: xs => sml x && smls xs
end
mutual
def dp : PV → Nat
  | .seq _ xs => dps xs + 1
  | _ => 0
def dps : List PV → Nat
  | [] => 0
  | x :: xs => max (dp x) (dps xs)
end
mutual
theorem sm_dat : ∀ {p : PV}, sml p = true → isDat p = true
  | .non, _ => rfl
  | .bl _, _ => rfl
  | .int _, _ => rfl
  | .str x, h => by
    simp only [sml, okS, Bool.and_eq_true] at h
    simpa only [isDat] using h.2
  | .seq t xs, h => by
    simp only [sml] at h
    simpa only [isDat] using sms_dat h
  | .ref _, h => by cases h
  | .loc _, h => by cases h
  | .exc _ _, h => by cases h
  | .scr _, h => by cases h
  | .ins _ _, h => by cases h
theorem sms_dat : ∀ {xs : List PV}, smls xs = true → areDat xs = true
  | [], _ => rfl
  | x :: xs, h => by
    simp only [smls, Bool.and_eq_true] at h
    simp only [areDat, sm_dat h.1, sms_dat h.2, Bool.and_self]
end
mutual
theorem sm_dp : ∀ {p : PV}, sml p = true → (dat p).depth = dp p
  | .non, _ => rfl
  | .bl _, _ => rfl
  | .int _, _ => rfl
  | .str x, h => rfl
  | .seq t xs, h => by
    simp only [sml] at h
    cases t <;> simp only [dat, PyData.depth, dp, sms_dp h]
  | .ref _, h => by cases h
  | .loc _, h => by cases h
  | .exc _ _, h => by cases h
  | .scr _, h => by cases h
  | .ins _ _, h => by cases h
theorem sms_dp : ∀ {xs : List PV}, smls xs = true → PyData.depthAll (dats xs) = dps xs
  | [], _ => rfl
  | x :: xs, h => by
    simp only [smls, Bool.and_eq_true] at h
    simp only [dats, PyData.depthAll, dps, sm_dp h.1, sms_dp h.2]
end
theorem int_len {i : Int} (h : i.natAbs < 10 ^ 34) : (Str.ofString (toString i)).length ≤ 35 := by
  have := int_text_length_le10 (a := i) (k := 34) (by decide) h
  rw [Str.ofString_eq_toList]
  show ((toString i).toList.map Char.toNat).toArray.size ≤ 35
  rw [List.size_toArray, List.length_map, String.length_toList]
  exact this
theorem log_lt {n : Nat} (h : n < 10 ^ 34) : n.log2 < 1920 := by
  by_cases h0 : n = 0
  · subst h0
    decide
  · have : n < 2 ^ 120 := Nat.lt_of_lt_of_le h (by decide)
    have := (Nat.log2_lt h0).mpr this
    omega
theorem ok_of (s : String) : PyData.strOk (Str.ofString s) = true := by
  rw [Str.ofString_eq_toList]
  unfold PyData.strOk
  rw [Array.all_eq_true']
  intro n hn
  simp only [List.mem_toArray, List.mem_map] at hn
  obtain ⟨c, _, rfl⟩ := hn
  have := c.valid
  simp only [decide_eq_true_eq]
  rcases this with h | h
  · exact Nat.lt_trans h (by decide)
  · exact h.2
theorem ok_app {x y : Str} (h : PyData.strOk x = true) (h2 : PyData.strOk y = true) : PyData.strOk (x ++ y) = true := by
  show (x.cps ++ y.cps).all _ = true
  rw [Array.all_append]
  exact Bool.and_eq_true _ _ |>.mpr ⟨h, h2⟩
theorem ok_from : ∀ {ts : List Str} {k : Nat} {acc : Str}, PyData.strOk acc = true → (∀ t ∈ ts, PyData.strOk t = true) → PyData.strOk (textFrom k acc ts) = true
  | [], _, _, h, _ => h
  | t :: ts, k, acc, h, ht => ok_from (ts := ts) (ok_app (ok_app h (by split <;> exact ok_of _)) (ht t List.mem_cons_self)) fun u hu => ht u (List.mem_cons_of_mem _ hu)
theorem ok_join : ∀ {ts : List Str}, (∀ t ∈ ts, PyData.strOk t = true) → PyData.strOk (Str.join ", " ts) = true
  | [], _ => by decide +kernel
  | [x], h => h x List.mem_cons_self
  | x :: y :: r, h => by
    show PyData.strOk (x ++ ", " ++ Str.join ", " (y :: r)) = true
    exact ok_app (ok_app (h x List.mem_cons_self) (ok_of ", ")) (ok_join fun u hu => h u (List.mem_cons_of_mem _ hu))
theorem from_len : ∀ (ts : List Str) (k : Nat) (acc : Str), (textFrom k acc ts).length ≤ acc.length + (ts.map fun t => t.length + 2).sum
  | [], _, acc => by simp [textFrom]
  | t :: ts, k, acc => by
    have := from_len ts (k + 1) (acc ++ (if k > 0 then ", " else "" : String) ++ t)
    rw [strLen_append, strLen_append] at this
    have e : ((if k > 0 then ", " else "" : String) : Str).length ≤ 2 := by split <;> decide
    simp only [textFrom, List.map_cons, List.sum_cons]
    omega
theorem join_len : ∀ ts : List Str, (Str.join ", " ts).length ≤ (ts.map fun t => t.length + 2).sum
  | [] => Nat.le_refl _
  | [x] => by
    show x.length ≤ _
    simp
  | x :: y :: r => by
    have ih := join_len (y :: r)
    show (x ++ ", " ++ Str.join ", " (y :: r)).length ≤ _
    rw [strLen_append, strLen_append]
    have e2 : ((", " : String) : Str).length = 2 := rfl
    rw [List.map_cons, List.sum_cons]
    omega
theorem list_len (ts : List Str) : (listText ts).length ≤ (ts.map fun t => t.length + 2).sum + 2 := by
  unfold listText
  rw [strLen_append]
  have := from_len ts 0 "["
  have e1 : ((("[" : String) : Str)).length = 1 := rfl
  have e2 : ((("]" : String) : Str)).length = 1 := rfl
  omega
theorem tup_len (ts : List Str) : (tupleText ts).length ≤ (ts.map fun t => t.length + 2).sum + 3 := by
  unfold tupleText
  rw [strLen_append, strLen_append]
  have := join_len ts
  have e1 : ((("(" : String) : Str)).length = 1 := rfl
  have e3 : (((if ts.length == 1 then ",)" else ")" : String) : Str)).length ≤ 2 := by split <;> decide
  omega
mutual
theorem sm_len : ∀ {p : PV}, sml p = true → (dat p).shown.length ≤ wt p ∧ (dat p).showable = true ∧ PyData.strOk (dat p).shown = true
  | .non, _ => ⟨by decide, rfl, ok_of "None"⟩
  | .bl true, _ => ⟨by decide, rfl, ok_of "True"⟩
  | .bl false, _ => ⟨by decide, rfl, ok_of "False"⟩
  | .int i, h => by
    have h : i.natAbs < 10 ^ 34 := by simpa [sml] using h
    refine ⟨?_, ?_, ok_of _⟩
    · have := int_len h
      simp only [dat, PyData.shown, wt]
      omega
    · simp only [dat, PyData.showable, decide_eq_true_eq]
      exact log_lt h
  | .str x, h => by
    simp only [sml, okS, Bool.and_eq_true, decide_eq_true_eq] at h
    refine ⟨?_, rfl, ?_⟩
    · simp only [dat, PyData.shown, wt]
      omega
    · simp only [dat, PyData.shown]
      exact h.1.2
  | .seq t xs, h => by
    simp only [sml] at h
    obtain ⟨h1, h2, h3⟩ := sms_len h
    have l1 := list_len (PyData.shownAll (dats xs))
    have l2 := tup_len (PyData.shownAll (dats xs))
    cases t
    · simp only [dat, PyData.shown, wt, PyData.showable]
      refine ⟨by omega, h2, ?_⟩
      unfold listText
      exact ok_app (ok_from (ok_of "[") h3) (ok_of "]")
    · simp only [dat, PyData.shown, wt, PyData.showable]
      refine ⟨by omega, h2, ?_⟩
      unfold tupleText
      exact ok_app (ok_app (ok_of "(") (ok_join h3)) (by split <;> exact ok_of _)
  | .ref _, h => by cases h
  | .loc _, h => by cases h
  | .exc _ _, h => by cases h
  | .scr _, h => by cases h
  | .ins _ _, h => by cases h
theorem sms_len : ∀ {xs : List PV}, smls xs = true → ((PyData.shownAll (dats xs)).map fun t => t.length + 2).sum ≤ wts xs ∧ PyData.showableAll (dats xs) = true ∧ ∀ t ∈ PyData.shownAll (dats xs), PyData.strOk t = true
  | [], _ => ⟨by decide, rfl, fun t h => by cases h⟩
  | x :: xs, h => by
    simp only [smls, Bool.and_eq_true] at h
    obtain ⟨a1, a2, a3⟩ := sm_len h.1
    obtain ⟨b1, b2, b3⟩ := sms_len h.2
    refine ⟨?_, ?_, fun t ht => ?_⟩
    · simp only [dats, PyData.shownAll, List.map_cons, List.sum_cons, wts]
      omega
    · simp only [dats, PyData.showableAll, a2, b2, Bool.and_self]
    · simp only [dats, PyData.shownAll, List.mem_cons] at ht
      rcases ht with rfl | ht
      · exact a3
      · exact b3 t ht
end
/-- data of a depth, of a size -/
structure Sm (d w : Nat) (p : PV) : Prop where
  s : sml p = true
  d : dp p ≤ d
  w : wt p ≤ w
structure Sms (d w : Nat) (xs : List PV) : Prop where
  s : smls xs = true
  d : dps xs ≤ d
  w : wts xs ≤ w
theorem sms_app : ∀ {xs ys : List PV}, smls (xs ++ ys) = (smls xs && smls ys)
  | [], ys => rfl
  | x :: xs, ys => by simp only [List.cons_append, smls, sms_app, Bool.and_assoc]
theorem dps_app : ∀ {xs ys : List PV}, dps (xs ++ ys) = max (dps xs) (dps ys)
  | [], ys => by simp [dps]
  | x :: xs, ys => by simp only [List.cons_append, dps, dps_app, Nat.max_assoc]
theorem wts_app : ∀ {xs ys : List PV}, wts (xs ++ ys) = wts xs + wts ys
  | [], ys => by simp [wts]
  | x :: xs, ys => by simp only [List.cons_append, wts, wts_app, Nat.add_assoc]
theorem Sm.seq {d w : Nat} {xs : List PV} (t : Bool) (h : Sms d w xs) : Sm (d + 1) (4 + w) (.seq t xs) := ⟨by simpa only [sml] using h.s, by simp only [dp]; exact Nat.succ_le_succ h.d, by simp only [wt]; exact Nat.add_le_add_left h.w 4⟩
theorem Sms.of {d w : Nat} {t : Bool} {xs : List PV} (h : Sm (d + 1) w (.seq t xs)) : Sms d w xs := ⟨by simpa only [sml] using h.s, by have := h.d; simp only [dp] at this; omega, by have := h.w; simp only [wt] at this; omega⟩
theorem Sms.nil (d : Nat) : Sms d 0 [] := ⟨rfl, Nat.zero_le _, Nat.zero_le _⟩
theorem Sms.cons {d w v : Nat} {x : PV} {xs : List PV} (h : Sm d w x) (h2 : Sms d v xs) : Sms d (w + 2 + v) (x :: xs) := ⟨by simp only [smls, h.s, h2.s, Bool.and_self], by simp only [dps]; exact Nat.max_le.mpr ⟨h.d, h2.d⟩, by simp only [wts]; have := h.w; have := h2.w; omega⟩
theorem Sms.app {d w v : Nat} {xs ys : List PV} (h : Sms d w xs) (h2 : Sms d v ys) : Sms d (w + v) (xs ++ ys) := ⟨by rw [sms_app, h.s, h2.s]; rfl, by rw [dps_app]; exact Nat.max_le.mpr ⟨h.d, h2.d⟩, by rw [wts_app]; exact Nat.add_le_add h.w h2.w⟩
theorem Sms.split {d w : Nat} {xs ys : List PV} (h : Sms d w (xs ++ ys)) : Sms d w xs ∧ Sms d w ys := by
  obtain ⟨a, b, c⟩ := h
  rw [sms_app, Bool.and_eq_true] at a
  rw [dps_app] at b
  rw [wts_app] at c
  exact ⟨⟨a.1, by omega, by omega⟩, ⟨a.2, by omega, by omega⟩⟩
theorem Sms.take {d w : Nat} {xs : List PV} (n : Nat) (h : Sms d w xs) : Sms d w (xs.take n) := by
  rw [← List.take_append_drop n xs] at h
  exact h.split.1
theorem Sms.drop {d w : Nat} {xs : List PV} (n : Nat) (h : Sms d w xs) : Sms d w (xs.drop n) := by
  rw [← List.take_append_drop n xs] at h
  exact h.split.2
theorem Sms.rev {d w : Nat} : ∀ {xs : List PV}, Sms d w xs → Sms d w xs.reverse := fun {xs} h => by
  have key : ∀ xs : List PV, smls xs.reverse = smls xs ∧ dps xs.reverse = dps xs ∧ wts xs.reverse = wts xs := fun xs => by
    induction xs with
    | nil => exact ⟨rfl, rfl, rfl⟩
    | cons x xs ih =>
      rw [List.reverse_cons, sms_app, dps_app, wts_app, ih.1, ih.2.1, ih.2.2]
      refine ⟨?_, ?_, ?_⟩
      · simp only [smls, Bool.and_true]
        exact Bool.and_comm _ _
      · simp only [dps]
        omega
      · simp only [wts]
        omega
  obtain ⟨a, b, c⟩ := key xs
  exact ⟨a.trans h.s, by rw [b]; exact h.d, by rw [c]; exact h.w⟩
theorem Sms.mem {d w : Nat} : ∀ {xs : List PV}, Sms d w xs → ∀ x ∈ xs, Sm d w x
  | x :: xs, h, y, hy => by
    obtain ⟨a, b, c⟩ := h
    simp only [smls, Bool.and_eq_true] at a
    simp only [dps] at b
    simp only [wts] at c
    rcases List.mem_cons.mp hy with rfl | hy
    · exact ⟨a.1, by omega, by omega⟩
    · exact Sms.mem (xs := xs) ⟨a.2, by omega, by omega⟩ y hy
theorem Sm.mono {d w d' w' : Nat} {p : PV} (h : Sm d w p) (h1 : d ≤ d') (h2 : w ≤ w') : Sm d' w' p := ⟨h.s, Nat.le_trans h.d h1, Nat.le_trans h.w h2⟩
theorem Sms.mono {d w d' w' : Nat} {p : List PV} (h : Sms d w p) (h1 : d ≤ d') (h2 : w ≤ w') : Sms d' w' p := ⟨h.s, Nat.le_trans h.d h1, Nat.le_trans h.w h2⟩
theorem Sms.all {d w : Nat} : ∀ {xs : List PV}, (∀ x ∈ xs, Sm d w x) → Sms d (xs.length * (w + 2)) xs
  | [], _ => ⟨rfl, Nat.zero_le _, by simp [wts]⟩
  | x :: xs, h => (Sms.cons (h x List.mem_cons_self) (Sms.all fun y hy => h y (List.mem_cons_of_mem _ hy))).mono (Nat.le_refl _) (by rw [List.length_cons, Nat.add_mul, Nat.one_mul]; omega)
theorem Sm.non (d : Nat) : Sm d 36 .non := ⟨rfl, Nat.zero_le _, Nat.le_refl _⟩
theorem Sm.bl (d : Nat) (b : Bool) : Sm d 36 (.bl b) := ⟨rfl, Nat.zero_le _, Nat.le_refl _⟩
theorem Sm.int {d : Nat} {i : Int} (h : i.natAbs < 10 ^ 34) : Sm d 36 (.int i) := ⟨by simpa [sml] using h, Nat.zero_le _, Nat.le_refl _⟩
theorem Sm.str {d : Nat} {x : Str} (h : okS x = true) : Sm d 36 (.str x) := ⟨by simpa [sml] using h, Nat.zero_le _, Nat.le_refl _⟩
theorem Sm.keep {d w : Nat} {p : PV} (h : Sm d w p) : keep p = true := by
  have := h.s
  cases p <;> first | rfl | cases this
theorem Sms.keep {d w : Nat} {xs : List PV} (h : Sms d w xs) : keepAll xs = true := List.all_eq_true.mpr fun x hx => (h.mem x hx).keep
theorem Sm.deref {d w : Nat} {p : PV} (h : Sm d w p) (fr : Frm) (st : Sto) : Rm.deref fr st p = p := by
  have := h.s
  cases p <;> first | rfl | cases this
theorem Sm.okEq {d w : Nat} {p : PV} (h : Sm d w p) (hd : d ≤ 64) : Rm.okEq p = true := by
  unfold Rm.okEq
  rw [sm_dat h.s, sm_dp h.s]
  have := h.d
  simp only [Bool.true_and, decide_eq_true_eq]
  omega
theorem Sm.okRepr {d w : Nat} {p : PV} (h : Sm d w p) (hd : d ≤ 64) (hw : w ≤ 16777216) : Rm.okRepr p = true := by
  unfold Rm.okRepr
  obtain ⟨a, b, c⟩ := sm_len h.s
  rw [sm_dat h.s, sm_dp h.s, b]
  have := h.d
  have := h.w
  simp only [Bool.true_and, Bool.and_true, Bool.and_eq_true, decide_eq_true_eq]
  refine ⟨by omega, ?_⟩
  rw [szl]
  omega
theorem Sm.repr {d w : Nat} {p : PV} (h : Sm d w p) (hd : d ≤ 64) (hw : w ≤ 16777216) : bltF .repr [p] = some (.str (dat p).shown) := by
  show (if Rm.okRepr p = true then _ else _) = _
  rw [if_pos (h.okRepr hd hw)]
/-- two texts -/
theorem eqF_str {x y : Str} (h : PyData.strOk x = true) (h2 : PyData.strOk y = true) : eqF (.str x) (.str y) = some (decide (x = y)) := by
  have a : ∀ z : Str, PyData.strOk z = true → okEq (.str z) = true := fun z hz => by
    unfold okEq
    simp only [isDat, PyData.canLay0, hz, dat, PyData.depth]
    rfl
  unfold eqF
  rw [if_pos ⟨a x h, a y h2⟩]
  simp only [dat, PyData.eqv]
  congr 1
/-- the texts of two data -/
theorem eqF_shown {d w d' w' : Nat} {p q : PV} (h : Sm d w p) (h2 : Sm d' w' q) : eqF (.str (dat p).shown) (.str (dat q).shown) = some (decide ((dat p).shown = (dat q).shown)) := eqF_str (sm_len h.s).2.2 (sm_len h2.s).2.2
end Rp
set_option Elab.async false
set_option linter.all false
set_option maxRecDepth 100000
set_option maxHeartbeats 4000000
/-! What the program's plain looks tell: whole numbers, primes, sizes, rows, matrices. -/
namespace Rp
open PySem PySem.Spec Rm
/-- a plain value -/
def pl : PV → Bool
  | .non | .bl _ | .int _ | .str _ | .seq _ _ => true
  | _ => false
theorem pl_dat {p : PV} (h : isDat p = true) : pl p = true := by
  cases p <;> first | rfl | cases h
theorem dat_mem : ∀ {xs : List PV}, areDat xs = true → ∀ x ∈ xs, isDat x = true
  | x :: xs, h, y, hy => by
    simp only [areDat, Bool.and_eq_true] at h
    rcases List.mem_cons.mp hy with rfl | hy
    · exact h.1
    · exact dat_mem h.2 y hy
theorem Sm.pl {d w : Nat} {p : PV} (h : Sm d w p) : pl p = true := pl_dat (sm_dat h.s)
@[simp] theorem keep_pl {p : PV} (h : pl p = true) : keep p = true := by
  cases p <;> first | rfl | cases h
theorem deref_pl {p : PV} (h : pl p = true) (fr : Frm) (st : Sto) : deref fr st p = p := by
  cases p <;> first | rfl | cases h
def isWh : PV → Bool
  | .int _ => true
  | _ => false
def WholeOk (G : Sig) (f : Nat) : Prop := ∀ (p : PV) (st : Sto), pl p = true → G.call f [p] st = .ok (.bl (isWh p)) st
theorem whole_run (G : Sig) (p : PV) (st : Sto) (h : pl p = true) : runFn G P_is_whole [p] st = .ok (.bl (isWh p)) st := by
  cases p <;> first | exact nomatch (show false = true from h) | rfl | skip
  rename_i t xs
  cases t <;> rfl
/-- the primes by a plain look -/
def isP (i : Int) : Bool := decide (2 ≤ i ∧ i ≤ 97) && (List.range (i - 2).toNat).all fun k => decide (i.fmod (2 + (k : Nat)) ≠ 0)
def isPr : PV → Bool
  | .int i => isP i
  | _ => false
def ndv (i : Int) : PV → PV
  | .int k => .bl (decide (i.fmod k ≠ 0))
  | _ => .non
def PrimeOk (G : Sig) (f : Nat) : Prop := ∀ (p : PV) (st : Sto), pl p = true → G.call f [p] st = .ok (.bl (isPr p)) st
theorem prime_run (G : Sig) (f g : Nat) (hf : WholeOk G f) (hg : G.glb[g]? = some (.int 97)) (p : PV) (st : Sto) (h : pl p = true) : runFn G (P_is_prime f g) [p] st = .ok (.bl (isPr p)) st := by
  have hc := hf p st h
  cases hw : isWh p with
  | false =>
    rw [hw] at hc
    have e : isPr p = false := by cases p <;> first | rfl | cases hw
    simp [runFn, P_is_prime, startF, evT, hc, h, truF, blF, outR, e]
  | true =>
    cases p <;> first | exact nomatch (show false = true from hw) | skip
    rename_i i
    rw [hw] at hc
    by_cases h1 : 2 ≤ i
    · by_cases h2 : i ≤ 97
      · have hr : rngF [.int 2, .int i] = some (rangeF 2 (i - 2).toNat) := rng2 2 i (by omega) (by omega) (by rw [szl]; omega)
        have hcc : ∀ fr0 : Frm, 1 < fr0.length → fr0[0]? = some (some (.val (.int i))) → compRun (evE G (.cmp .ne (.bin .mod (.var 0) (.var 1)) (.cst (.int 0)))) (evC G .nil) (.nm 1) fr0 (rangeF 2 (i - 2).toNat) [] st = .ok ((rangeF 2 (i - 2).toNat).map (ndv i)) st := fun fr0 hl h0 => by
          rw [show evC G .nil = fun _ st => .ok true st from rfl, comp_map hl (ndv i) _ [] (fun x hx => ?_)]
          · simp
          · unfold rangeF at hx
            obtain ⟨k, hk, rfl⟩ := List.mem_map.mp hx
            have hz : (2 + (k : Int)) ≠ 0 := by omega
            have g0 : (fr0.set 1 (some (.val (.int (2 + (k : Int))))))[0]? = some (some (.val (.int i))) := by
              rw [List.getElem?_set_ne (by decide)]
              exact h0
            have g1 : (fr0.set 1 (some (.val (.int (2 + (k : Int))))))[1]? = some (some (.val (.int (2 + (k : Int))))) := List.getElem?_set_self hl
            simp [g0, g1, binF, hz, cmpF, ndv]
        have hm : (rangeF 2 (i - 2).toNat).map (ndv i) = (List.range (i - 2).toNat).map fun k => PV.bl (decide (i.fmod (2 + (k : Nat)) ≠ 0)) := by
          unfold rangeF
          rw [List.map_map]
          rfl
        have hw := hcc (wipeF [some (.val (.int i)), none] [1]) (by simp [wipeF]) (by simp [wipeF])
        simp [runFn, P_is_prime, startF, evT, hc, hg, truF, cmpF, h1, h2, blF, outR, Res.then, hr, hw, hm, bltF, boolL_map, isPr, isP]
      · have e : isPr (.int i) = false := by
          simp only [isPr, isP, decide_eq_false (show ¬ (2 ≤ i ∧ i ≤ 97) from fun z => h2 z.2), Bool.false_and]
        simp [runFn, P_is_prime, startF, evT, hc, hg, truF, cmpF, h1, h2, blF, outR, e]
    · have e : isPr (.int i) = false := by
        simp only [isPr, isP, decide_eq_false (show ¬ (2 ≤ i ∧ i ≤ 97) from fun z => h1 z.1), Bool.false_and]
      simp [runFn, P_is_prime, startF, evT, hc, hg, truF, cmpF, h1, blF, outR, e]
def NeedOk (G : Sig) (f c : Nat) : Prop := ∀ (p : PV) (st : Sto), pl p = true → G.call f [p] st = if isPr p = true then .ok .non st else .exc c .non st
theorem need_run (G : Sig) (f c : Nat) (hf : PrimeOk G f) (p : PV) (st : Sto) (h : pl p = true) : runFn G (P_need_prime f c) [p] st = if isPr p = true then .ok .non st else .exc c .non st := by
  have hc := hf p st h
  cases hp : isPr p <;> rw [hp] at hc <;> simp [runFn, P_need_prime, startF, evT, hc, h, truF, outR, szl]
def isSz : PV → Bool
  | .int i => decide (0 ≤ i ∧ i ≤ 2000)
  | _ => false
def SizeOk (G : Sig) (f : Nat) : Prop := ∀ (p : PV) (st : Sto), pl p = true → G.call f [p] st = .ok (.bl (isSz p)) st
theorem size_run (G : Sig) (f g : Nat) (hf : WholeOk G f) (hg : G.glb[g]? = some (.int 2000)) (p : PV) (st : Sto) (h : pl p = true) : runFn G (P_is_size f g) [p] st = .ok (.bl (isSz p)) st := by
  have hc := hf p st h
  cases hw : isWh p with
  | false =>
    rw [hw] at hc
    have e : isSz p = false := by cases p <;> first | rfl | cases hw
    simp [runFn, P_is_size, startF, evT, hc, h, truF, blF, outR, e]
  | true =>
    cases p <;> first | exact nomatch (show false = true from hw) | skip
    rename_i i
    rw [hw] at hc
    by_cases h1 : 0 ≤ i
    · by_cases h2 : i ≤ 2000 <;> simp [runFn, P_is_size, startF, evT, hc, hg, truF, cmpF, h1, h2, blF, outR, isSz]
    · simp [runFn, P_is_size, startF, evT, hc, hg, truF, cmpF, h1, blF, outR, isSz]
/-- a number of a row -/
def isNm (p : Int) : PV → Bool
  | .int i => decide (0 ≤ i ∧ i < p)
  | _ => false
def isRw (c p : Int) : PV → Bool
  | .seq true xs => decide ((xs.length : Int) = c) && xs.all (isNm p)
  | _ => false
def RowOk (G : Sig) (f : Nat) : Prop := ∀ (t : PV) (c p : Int) (st : Sto), isDat t = true → G.call f [t, .int c, .int p] st = .ok (.bl (isRw c p t)) st
theorem row_run (G : Sig) (f : Nat) (hf : WholeOk G f) (t : PV) (c p : Int) (st : Sto) (h : isDat t = true) : runFn G (P_is_row f) [t, .int c, .int p] st = .ok (.bl (isRw c p t)) st := by
  by_cases ht : ∃ xs, t = .seq true xs
  · obtain ⟨xs, rfl⟩ := ht
    by_cases hl : (xs.length : Int) = c
    · have hcc : ∀ fr0 : Frm, 3 < fr0.length → fr0[2]? = some (some (.val (.int p))) → compRun (evE G (.and (.cons (.call f (.cons (.var 3) .nil) .nil) (.cons (.chn .le .lt (.cst (.int 0)) (.var 3) (.var 2)) .nil)))) (evC G .nil) (.nm 3) fr0 xs [] st = .ok (xs.map fun x => .bl (isNm p x)) st := fun fr0 h3 h2 => by
        rw [show evC G .nil = fun _ st => .ok true st from rfl, comp_map h3 (fun x => .bl (isNm p x)) _ [] (fun x hx => ?_)]
        · simp
        · have dx : isDat x = true := dat_mem (by simpa [isDat] using h) x hx
          have g2 : (fr0.set 3 (some (.val x)))[2]? = some (some (.val (.int p))) := by
            rw [List.getElem?_set_ne (by decide)]
            exact h2
          have g3 : (fr0.set 3 (some (.val x)))[3]? = some (some (.val x)) := List.getElem?_set_self h3
          have hc := hf x st (pl_dat dx)
          have kx := keep_pl (pl_dat dx)
          cases hw : isWh x with
          | false =>
            rw [hw] at hc
            have e : isNm p x = false := by cases x <;> first | rfl | cases hw
            simp [g2, g3, hc, kx, blF, e]
          | true =>
            cases x <;> first | exact nomatch (show false = true from hw) | skip
            rename_i i
            rw [hw] at hc
            by_cases h1 : 0 ≤ i
            · by_cases h2 : i < p <;> simp [g2, g3, hc, blF, cmpF, h1, h2, isNm]
            · simp [g2, g3, hc, blF, cmpF, h1, isNm]
      have hw := hcc (wipeF [some (.val (.seq true xs)), some (.val (.int c)), some (.val (.int p)), none] [3]) (by simp [wipeF]) (by simp [wipeF])
      simp [runFn, P_is_row, startF, evT, isiAny, isiF, truF, cmpF, bltF, hl, blF, outR, hw, boolL_map, isRw, seqF]
    · simp [runFn, P_is_row, startF, evT, isiAny, isiF, truF, cmpF, bltF, hl, blF, outR, isRw]
  · have e : isRw c p t = false := by
      cases t <;> first | rfl | skip
      rename_i b xs
      cases b <;> first | rfl | exact absurd ⟨xs, rfl⟩ ht
    have e2 : isiF G t .tuple = some false := by
      cases t <;> first | rfl | cases h | skip
      rename_i b xs
      cases b <;> first | rfl | exact absurd ⟨xs, rfl⟩ ht
    have dt : ∀ fr st, deref fr st t = t := deref_pl (pl_dat h)
    simp [runFn, P_is_row, startF, evT, isiAny, dt, e2, truF, blF, outR, e]
end Rp
set_option Elab.async false
set_option linter.all false
set_option maxRecDepth 100000
set_option maxHeartbeats 4000000
/-! What the program's matrices tell: forms, noughts, ones. -/
namespace Rp
open PySem PySem.Spec Rm
def isMt (p : Int) : PV → Bool
  | .seq true [x, y, .seq true rows] => match x, y with
    | .int a, .int b => decide (0 ≤ a ∧ a ≤ 2000) && decide (0 ≤ b ∧ b ≤ 2000) && decide ((rows.length : Int) = a) && rows.all (isRw b p)
    | _, _ => false
  | _ => false
theorem idx0 (x : PV) (l : List PV) (t : Bool) : idxF (.seq t (x :: l)) (.int 0) = some x := at_get t (j := 0) rfl rfl
theorem idx1 (x y : PV) (l : List PV) (t : Bool) : idxF (.seq t (x :: y :: l)) (.int 1) = some y := at_get t (j := 1) rfl rfl
theorem idx2 (x y z : PV) (l : List PV) (t : Bool) : idxF (.seq t (x :: y :: z :: l)) (.int 2) = some z := at_get t (j := 2) rfl rfl
@[simp] theorem isi_tt (G : Sig) (xs : List PV) : isiF G (.seq true xs) .tuple = some true := rfl
theorem isiT {G : Sig} {t : PV} (h : isDat t = true) (ht : ∀ xs, t ≠ .seq true xs) : isiF G t .tuple = some false := by
  cases t <;> first | rfl | exact nomatch (show false = true from h) | skip
  rename_i b xs
  cases b <;> first | rfl | exact absurd rfl (ht xs)
theorem sz_int {x : PV} (h : isSz x = true) : ∃ a : Int, x = .int a ∧ 0 ≤ a ∧ a ≤ 2000 := by
  cases x <;> first | exact nomatch (show false = true from h) | skip
  rename_i a
  simp only [isSz, decide_eq_true_eq] at h
  exact ⟨a, rfl, h⟩
def FormOk (G : Sig) (f : Nat) : Prop := ∀ (t : PV) (p : Int) (st : Sto), isDat t = true → G.call f [t, .int p] st = .ok (.bl (isMt p t)) st
theorem form_run (G : Sig) (fs fr : Nat) (hs : SizeOk G fs) (hr : RowOk G fr) (t : PV) (p : Int) (st : Sto) (h : isDat t = true) : runFn G (P_has_form fs fr) [t, .int p] st = .ok (.bl (isMt p t)) st := by
  have dt : ∀ fr st, deref fr st t = t := deref_pl (pl_dat h)
  by_cases ht : ∃ xs, t = .seq true xs
  · obtain ⟨xs, rfl⟩ := ht
    by_cases hl : xs.length = 3
    · obtain ⟨x, y, z, rfl⟩ : ∃ x y z, xs = [x, y, z] := by
        rcases xs with _ | ⟨x, _ | ⟨y, _ | ⟨z, _ | ⟨w, xs⟩⟩⟩⟩ <;> simp at hl
        exact ⟨x, y, z, rfl⟩
      have hd : isDat x = true ∧ isDat y = true ∧ isDat z = true := by simpa [isDat, areDat] using h
      obtain ⟨dx, dy, dz⟩ := hd
      have cx := hs x st (pl_dat dx)
      have cy := hs y st (pl_dat dy)
      have kx := keep_pl (pl_dat dx)
      have ky := keep_pl (pl_dat dy)
      have zt : ∀ fr st, deref fr st z = z := deref_pl (pl_dat dz)
      cases hx : isSz x with
      | false =>
        rw [hx] at cx
        have e : isMt p (.seq true [x, y, z]) = false := by
          unfold isMt
          split
          · rename_i a b rows e
            cases e
            split
            · simp only [isSz] at hx
              rw [hx]
              rfl
            · rfl
          · rfl
        simp [runFn, P_has_form, startF, evT, isiAny, isi_tt, truF, cmpF, bltF, blF, outR, e, cx, kx, idx0]
      | true =>
        obtain ⟨a, rfl, a1, a2⟩ := sz_int hx
        rw [hx] at cx
        cases hy : isSz y with
        | false =>
          rw [hy] at cy
          have e : isMt p (.seq true [.int a, y, z]) = false := by
            unfold isMt
            split
            · rename_i b c rows e
              cases e
              split
              · rename_i e2 e3
                simp only [isSz] at hy
                rw [hy]
                simp
              · rfl
            · rfl
          simp [runFn, P_has_form, startF, evT, isiAny, isi_tt, truF, cmpF, bltF, blF, outR, e, cx, cy, kx, ky, idx0, idx1]
        | true =>
          obtain ⟨b, rfl, b1, b2⟩ := sz_int hy
          rw [hy] at cy
          by_cases hz : ∃ rows, z = .seq true rows
          · obtain ⟨rows, rfl⟩ := hz
            by_cases hn : (rows.length : Int) = a
            · have hcc : ∀ fr0 : Frm, 2 < fr0.length → fr0[0]? = some (some (.val (.seq true [.int a, .int b, .seq true rows]))) → fr0[1]? = some (some (.val (.int p))) → compRun (evE G (.call fr (.cons (.var 2) (.cons (.sub (.var 0) (.cst (.int 1))) (.cons (.var 1) .nil))) .nil)) (evC G .nil) (.nm 2) fr0 rows [] st = .ok (rows.map fun x => .bl (isRw b p x)) st := fun fr0 h2 h0 h1 => by
                rw [show evC G .nil = fun _ st => .ok true st from rfl, comp_map h2 (fun x => .bl (isRw b p x)) _ [] (fun x hx => ?_)]
                · simp
                · have dr : isDat x = true := dat_mem (by simpa [isDat] using dz) x hx
                  have g0 : (fr0.set 2 (some (.val x)))[0]? = some (some (.val (.seq true [.int a, .int b, .seq true rows]))) := by
                    rw [List.getElem?_set_ne (by decide)]
                    exact h0
                  have g1 : (fr0.set 2 (some (.val x)))[1]? = some (some (.val (.int p))) := by
                    rw [List.getElem?_set_ne (by decide)]
                    exact h1
                  have g2 : (fr0.set 2 (some (.val x)))[2]? = some (some (.val x)) := List.getElem?_set_self h2
                  have hc := hr x b p st dr
                  have kx := keep_pl (pl_dat dr)
                  simp [g0, g1, g2, idx1, kx, hc]
              have hw := hcc (wipeF [some (.val (.seq true [.int a, .int b, .seq true rows])), some (.val (.int p)), none] [2]) (by simp [wipeF]) (by simp [wipeF]) (by simp [wipeF])
              simp [runFn, P_has_form, startF, evT, isiAny, isi_tt, truF, cmpF, bltF, blF, outR, cx, cy, idx0, idx1, idx2, hn, hw, boolL_map, isMt, seqF, a1, a2, b1, b2]
            · simp [runFn, P_has_form, startF, evT, isiAny, isi_tt, truF, cmpF, bltF, blF, outR, cx, cy, idx0, idx1, idx2, hn, isMt, seqF, a1, a2, b1, b2]
          · have e : isMt p (.seq true [.int a, .int b, z]) = false := by
              unfold isMt
              split
              · rename_i e
                cases e
                exact absurd ⟨_, rfl⟩ hz
              · rfl
            have e2 := isiT (G := G) dz fun rows q => hz ⟨rows, q⟩
            simp [runFn, P_has_form, startF, evT, isiAny, isi_tt, truF, cmpF, bltF, blF, outR, cx, cy, idx0, idx1, idx2, zt, e2, e]
    · have e : isMt p (.seq true xs) = false := by
        unfold isMt
        split
        · rename_i e
          cases e
          exact absurd rfl hl
        · rfl
      have hl2 : ¬ (xs.length : Int) = 3 := by omega
      simp [runFn, P_has_form, startF, evT, isiAny, isi_tt, truF, cmpF, bltF, blF, outR, e, hl2, hl]
  · have e : isMt p t = false := by
      unfold isMt
      split
      · exact absurd ⟨_, rfl⟩ ht
      · rfl
    have e2 := isiT (G := G) h fun xs q => ht ⟨xs, q⟩
    simp [runFn, P_has_form, startF, evT, isiAny, dt, e2, truF, blF, outR, e]
def iv : PV → Int
  | .int i => i
  | _ => 0
theorem pr_int {q : PV} (h : isPr q = true) : q = .int (iv q) := by
  cases q <;> first | rfl | exact nomatch (show false = true from h)
theorem isP_rng {i : Int} (h : isP i = true) : 2 ≤ i ∧ i ≤ 97 := by
  unfold isP at h
  simp only [Bool.and_eq_true, decide_eq_true_eq] at h
  exact h.1
def MatOk (G : Sig) (f c : Nat) : Prop := ∀ (t q : PV) (st : Sto), isDat t = true → pl q = true → G.call f [t, q] st = if isPr q = true then .ok (.bl (isMt (iv q) t)) st else .exc c .non st
theorem mat_run (G : Sig) (fn ff c : Nat) (hn : NeedOk G fn c) (hf : FormOk G ff) (t q : PV) (st : Sto) (h : isDat t = true) (hq : pl q = true) : runFn G (P_is_matrix fn ff) [t, q] st = if isPr q = true then .ok (.bl (isMt (iv q) t)) st else .exc c .non st := by
  have h1 := hn q st hq
  have kt := keep_pl (pl_dat h)
  cases hp : isPr q with
  | false =>
    rw [hp] at h1
    simp at h1
    simp [runFn, P_is_matrix, startF, h1, hq, outR]
  | true =>
    rw [hp] at h1
    simp at h1
    have e := pr_int hp
    have h2 := hf t (iv q) st h
    rw [← e] at h2
    simp [runFn, P_is_matrix, startF, h1, h2, hq, kt, outR]
def FitOk (G : Sig) (f c : Nat) : Prop := ∀ (b : Bool) (st : Sto), G.call f [.bl b] st = if b = true then .ok .non st else .exc c .non st
theorem fit_run (G : Sig) (c : Nat) (b : Bool) (st : Sto) : runFn G (P_need_fit c) [.bl b] st = if b = true then .ok .non st else .exc c .non st := by
  cases b <;> simp [runFn, P_need_fit, startF, evT, truF, outR, szl]
/-- the noughts -/
def nouV (r c : Int) : PV := .seq true [.int r, .int c, .seq true (List.replicate r.toNat (.seq true (List.replicate c.toNat (.int 0))))]
theorem mul_one (x : PV) (k : Int) (t : Bool) (h0 : 0 ≤ k) (h1 : k ≤ 16777216) : binF .mul (.seq t [x]) (.int k) = some (.seq t (List.replicate k.toNat x)) := by
  have e : (List.replicate k.toNat [x]).flatten = List.replicate k.toNat x := by simp
  show (if small k = true ∧ k < 2 ^ 63 ∧ -(2 ^ 63) ≤ k ∧ fits ([x].length * k.toNat) = true then some (PV.seq t (List.replicate k.toNat [x]).flatten) else none) = _
  rw [if_pos, e]
  refine ⟨sm h0 (by omega), by omega, by omega, ?_⟩
  simp only [fits_eq, szl, List.length_cons, List.length_nil]
  omega
def NouOfOk (G : Sig) (f : Nat) : Prop := ∀ (r c : Int) (st : Sto), 0 ≤ r → r ≤ 2000 → 0 ≤ c → c ≤ 2000 → G.call f [.int r, .int c] st = .ok (nouV r c) st
theorem nouof_run (G : Sig) (r c : Int) (st : Sto) (h1 : 0 ≤ r) (h2 : r ≤ 2000) (h3 : 0 ≤ c) (h4 : c ≤ 2000) : runFn G P_noughts_of [.int r, .int c] st = .ok (nouV r c) st := by
  have m1 := mul_one (.int 0) c true h3 (by omega)
  have m2 := mul_one (.seq true (List.replicate c.toNat (.int 0))) r true h1 (by omega)
  simp [runFn, P_noughts_of, startF, m1, m2, outR, szl, nouV]
def NouOk (G : Sig) (f c : Nat) : Prop := ∀ (x y : PV) (st : Sto), pl x = true → pl y = true → G.call f [x, y] st = if isSz x = true ∧ isSz y = true then .ok (nouV (iv x) (iv y)) st else .exc c .non st
theorem nou_run (G : Sig) (ff fs fo c : Nat) (hf : FitOk G ff c) (hs : SizeOk G fs) (ho : NouOfOk G fo) (x y : PV) (st : Sto) (hx : pl x = true) (hy : pl y = true) : runFn G (P_noughts ff fs fo) [x, y] st = if isSz x = true ∧ isSz y = true then .ok (nouV (iv x) (iv y)) st else .exc c .non st := by
  have sx := hs x st hx
  have sy := hs y st hy
  have fT := hf true st
  have fF := hf false st
  simp only [if_true, Bool.false_eq_true, if_false] at fT fF
  cases ex : isSz x with
  | false =>
    rw [ex] at sx
    simp [runFn, P_noughts, startF, sx, hx, blF, fF, outR]
  | true =>
    obtain ⟨a, rfl, a1, a2⟩ := sz_int ex
    rw [ex] at sx
    cases ey : isSz y with
    | false =>
      rw [ey] at sy
      simp [runFn, P_noughts, startF, sx, sy, hy, blF, fF, outR]
    | true =>
      obtain ⟨b, rfl, b1, b2⟩ := sz_int ey
      rw [ey] at sy
      have h := ho a b st a1 a2 b1 b2
      simp [runFn, P_noughts, startF, sx, sy, blF, fT, h, outR, nouV, iv]
end Rp
set_option Elab.async false
set_option linter.all false
set_option maxRecDepth 100000
set_option maxHeartbeats 4000000
/-! Ones; the law's own look at a matrix; refusals. -/
namespace Rp
open PySem PySem.Spec Rm
def idv : PV → PV → PV
  | .int i, .int k => .int (if k = i then 1 else 0)
  | _, _ => .non
def onesV (n : Int) : PV := .seq true [.int n, .int n, .seq true ((rangeF 0 n.toNat).map fun i => .seq true ((rangeF 0 n.toNat).map (idv i)))]
theorem ones_in (G : Sig) (n i : Int) (a : Option FV) (st : Sto) : compRun (evE G (.blt .int (.cons (.cmp .eq (.var 2) (.var 1)) .nil))) (evC G .nil) (.nm 2) [a, some (.val (.int i)), none] (rangeF 0 n.toNat) [] st = .ok ((rangeF 0 n.toNat).map (idv (.int i))) st := by
  rw [show evC G .nil = fun _ st => .ok true st from rfl, comp_map (by simp) (idv (.int i)) _ [] (fun x hx => ?_)]
  · simp
  · unfold rangeF at hx
    obtain ⟨k, hk, rfl⟩ := List.mem_map.mp hx
    simp [cmpF, bltF, idv]
def OnesByOk (G : Sig) (f : Nat) : Prop := ∀ (n : Int) (st : Sto), 0 ≤ n → n ≤ 2000 → G.call f [.int n] st = .ok (onesV n) st
theorem onesby_run (G : Sig) (n : Int) (st : Sto) (h0 : 0 ≤ n) (h1 : n ≤ 2000) : runFn G P_ones_by [.int n] st = .ok (onesV n) st := by
  have hr : rngF [.int n] = some (rangeF 0 n.toNat) := rng1 n (by omega) (by rw [szl]; omega)
  have ho : compRun (evE G (.blt .tuple (.cons (.comp [2] (.blt .int (.cons (.cmp .eq (.var 2) (.var 1)) .nil)) (.nm 2) (.itR (.cons (.var 0) .nil)) .nil) .nil))) (evC G .nil) (.nm 1) [some (.val (.int n)), none, none] (rangeF 0 n.toNat) [] st = .ok ((rangeF 0 n.toNat).map fun i => .seq true ((rangeF 0 n.toNat).map (idv i))) st := by
    rw [show evC G .nil = fun _ st => .ok true st from rfl, comp_map (by simp) (fun i => .seq true ((rangeF 0 n.toNat).map (idv i))) _ [] (fun x hx => ?_)]
    · simp
    · unfold rangeF at hx
      obtain ⟨k, hk, rfl⟩ := List.mem_map.mp hx
      have := ones_in G n (0 + (k : Nat)) (some (.val (.int n))) st
      simp only [Int.zero_add] at this
      simp [hr, wipeF, this, bltF]
  simp [runFn, P_ones_by, startF, hr, wipeF, ho, bltF, outR, szl, onesV]
def OnesOk (G : Sig) (f c : Nat) : Prop := ∀ (x : PV) (st : Sto), pl x = true → G.call f [x] st = if isSz x = true then .ok (onesV (iv x)) st else .exc c .non st
theorem ones_run (G : Sig) (ff fs fo c : Nat) (hf : FitOk G ff c) (hs : SizeOk G fs) (ho : OnesByOk G fo) (x : PV) (st : Sto) (hx : pl x = true) : runFn G (P_ones ff fs fo) [x] st = if isSz x = true then .ok (onesV (iv x)) st else .exc c .non st := by
  have sx := hs x st hx
  have fT := hf true st
  have fF := hf false st
  simp only [if_true, Bool.false_eq_true, if_false] at fT fF
  cases ex : isSz x with
  | false =>
    rw [ex] at sx
    simp [runFn, P_ones, startF, sx, hx, blF, fF, outR]
  | true =>
    obtain ⟨a, rfl, a1, a2⟩ := sz_int ex
    rw [ex] at sx
    have h := ho a st a1 a2
    simp [runFn, P_ones, startF, sx, fT, h, outR, onesV, iv]
/-! ### the law's own look -/
theorem any_bl : ∀ bs : List Bool, ((dats (bs.map PV.bl)).any fun z => PyData.eqv z (dat (.bl false))) = bs.any not
  | [] => rfl
  | b :: bs => by
    have := any_bl bs
    simp only [List.map_cons, dats, List.any_cons, this]
    cases b <;> rfl
theorem inF_bl (bs : List Bool) : inF (.bl false) (bs.map .bl) = some (bs.any not) := by
  have h : Sms 0 ((bs.map PV.bl).length * (36 + 2)) (bs.map .bl) := Sms.all fun x hx => by
    obtain ⟨b, _, rfl⟩ := List.mem_map.mp hx
    exact Sm.bl 0 b
  unfold inF
  rw [if_pos ⟨(Sm.bl 0 false).okEq (by decide), (Sm.seq true h).okEq (by decide)⟩, any_bl]
def szS : S := (.seq (.ite (.or (.cons (.isi (.var 2) [.bool]) (.cons (.not (.isi (.var 2) [.int])) (.cons (.not (.chn .le .le (.cst (.int 0)) (.var 2) (.cst (.int 2000)))) .nil))))
   (.seq (.ret (.cst (.bl false)))
   .nop)
   .nop)
  .nop)
theorem szS_ok (G : Sig) (x : PV) (fr : Frm) (st : Sto) (h : isDat x = true) (h2 : fr[2]? = some (some (.val x))) : exS G szS fr st = if isSz x = true then .nx fr st else .rt (.bl false) st := by
  have dx : ∀ fr st, deref fr st x = x := deref_pl (pl_dat h)
  by_cases hi : ∃ i, x = .int i
  · obtain ⟨i, rfl⟩ := hi
    by_cases h1 : 0 ≤ i
    · by_cases h3 : i ≤ 2000 <;> simp [szS, evT, h2, isiAny, isiF, blF, truF, cmpF, h1, h3, isSz]
    · simp [szS, evT, h2, isiAny, isiF, blF, truF, cmpF, h1, isSz]
  · cases x <;> first | exact nomatch (show false = true from h) | exact absurd ⟨_, rfl⟩ hi | skip
    · simp [szS, evT, h2, isiAny, isiF, blF, truF, isSz]
    · simp [szS, evT, h2, isiAny, isiF, blF, truF, isSz]
    · simp [szS, evT, h2, isiAny, isiF, blF, truF, isSz]
    · rename_i t xs
      cases t <;> simp [szS, evT, h2, isiAny, isiF, blF, truF, isSz]
def rwS : S := (.seq (.ite (.or (.cons (.not (.isi (.var 3) [.tuple])) (.cons (.cmp .ne (.blt .len (.cons (.var 3) .nil)) (.sub (.var 0) (.cst (.int 1)))) .nil)))
   (.seq (.ret (.cst (.bl false)))
   .nop)
   .nop)
  (.seq (.ite (.cmp .isin (.cst (.bl false)) (.comp [4] (.and (.cons (.isi (.var 4) [.int]) (.cons (.not (.isi (.var 4) [.bool])) (.cons (.chn .le .lt (.cst (.int 0)) (.var 4) (.var 1)) .nil)))) (.nm 4) (.itS (.var 3)) .nil))
   (.seq (.ret (.cst (.bl false)))
   .nop)
   .nop)
  .nop))
theorem rwS_ok (G : Sig) (x y z : PV) (b p : Int) (c : Option FV) (st : Sto) (h : isDat x = true) : exS G rwS [some (.val (.seq true [y, .int b, z])), some (.val (.int p)), c, some (.val x), none] st = if isRw b p x = true then .nx [some (.val (.seq true [y, .int b, z])), some (.val (.int p)), c, some (.val x), none] st else .rt (.bl false) st := by
  have dx : ∀ fr st, deref fr st x = x := deref_pl (pl_dat h)
  by_cases hx : ∃ xs, x = .seq true xs
  · obtain ⟨xs, rfl⟩ := hx
    have hd : areDat xs = true := by simpa [isDat] using h
    by_cases hl : (xs.length : Int) = b
    · have hcc : compRun (evE G (.and (.cons (.isi (.var 4) [.int]) (.cons (.not (.isi (.var 4) [.bool])) (.cons (.chn .le .lt (.cst (.int 0)) (.var 4) (.var 1)) .nil))))) (evC G .nil) (.nm 4) [some (.val (.seq true [y, .int b, z])), some (.val (.int p)), c, some (.val (.seq true xs)), none] xs [] st = .ok (xs.map fun x => .bl (isNm p x)) st := by
        rw [show evC G .nil = fun _ st => .ok true st from rfl, comp_map (by simp) (fun x => .bl (isNm p x)) _ [] (fun x hx => ?_)]
        · simp
        · have dx := dat_mem hd x hx
          by_cases hi : ∃ i, x = .int i
          · obtain ⟨i, rfl⟩ := hi
            by_cases h1 : 0 ≤ i
            · by_cases h3 : i < p <;> simp [isiAny, isiF, blF, truF, cmpF, h1, h3, isNm]
            · simp [isiAny, isiF, blF, truF, cmpF, h1, isNm]
          · cases x <;> first | exact nomatch (show false = true from dx) | exact absurd ⟨_, rfl⟩ hi | skip
            · simp [isiAny, isiF, blF, truF, isNm]
            · simp [isiAny, isiF, blF, truF, isNm]
            · simp [isiAny, isiF, blF, truF, isNm]
            · rename_i t xs
              cases t <;> simp [isiAny, isiF, blF, truF, isNm]
      have hin : inF (.bl false) (xs.map fun x => .bl (isNm p x)) = some ((xs.map (isNm p)).any not) := by
        have := inF_bl (xs.map (isNm p))
        rw [List.map_map] at this
        exact this
      have ha : ((xs.map (isNm p)).any not) = !(xs.all (isNm p)) := by
        rw [List.any_map]
        clear hin hcc hl hd dx h
        induction xs with
        | nil => rfl
        | cons x xs ih => simp only [List.any_cons, List.all_cons, ih, Function.comp, Bool.not_and]
      rw [ha] at hin
      cases hq : xs.all (isNm p) <;> rw [hq] at hin <;> simp [rwS, evT, isiAny, isi_tt, blF, truF, cmpF, bltF, idx1, hl, hcc, hin, isRw, hq, wipeF, seqF]
    · simp [rwS, evT, isiAny, isi_tt, blF, truF, cmpF, bltF, idx1, hl, isRw]
  · have e : isRw b p x = false := by
      cases x <;> first | rfl | skip
      rename_i b xs
      cases b <;> first | rfl | exact absurd ⟨xs, rfl⟩ hx
    have e2 := isiT (G := G) h fun xs q => hx ⟨xs, q⟩
    simp [rwS, evT, isiAny, dx, e2, blF, truF, e]
theorem rows_loop (G : Sig) (y z : PV) (b p : Int) (c : Option FV) (st : Sto) : ∀ (rows : List PV) (e : Option FV), areDat rows = true → ∃ fr', forRun (.nm 3) (exS G rwS) rows [some (.val (.seq true [y, .int b, z])), some (.val (.int p)), c, e, none] st =
    if rows.all (isRw b p) = true then .nx fr' st else .rt (.bl false) st
  | [], e, _ => ⟨_, by simp [forRun]; rfl⟩
  | x :: rows, e, h => by
    simp only [areDat, Bool.and_eq_true] at h
    obtain ⟨fr', ih⟩ := rows_loop G y z b p c st rows (some (.val x)) h.2
    refine ⟨fr', ?_⟩
    unfold forRun
    have := rwS_ok G x y z b p c st h.1
    simp only [asg, List.length_cons, List.length_nil]
    simp only [show (3 : Nat) < 0 + 1 + 1 + 1 + 1 + 1 from by decide, if_true, List.set_cons_succ, List.set_cons_zero, this]
    cases hx : isRw b p x with
    | true =>
      simp only [if_true, List.all_cons, hx, Bool.true_and]
      exact ih
    | false => simp [List.all_cons, hx]
def LIsMtOk (G : Sig) (f : Nat) : Prop := ∀ (t : PV) (p : Int) (st : Sto), isDat t = true → G.call f [t, .int p] st = .ok (.bl (isMt p t)) st
theorem lismt_run (G : Sig) (t : PV) (p : Int) (st : Sto) (h : isDat t = true) : runFn G P_law_is_matrix [t, .int p] st = .ok (.bl (isMt p t)) st := by
  have dt : ∀ fr st, deref fr st t = t := deref_pl (pl_dat h)
  by_cases ht : ∃ xs, t = .seq true xs
  · obtain ⟨xs, rfl⟩ := ht
    by_cases hl : xs.length = 3
    · obtain ⟨x, y, z, rfl⟩ : ∃ x y z, xs = [x, y, z] := by
        rcases xs with _ | ⟨x, _ | ⟨y, _ | ⟨z, _ | ⟨w, xs⟩⟩⟩⟩ <;> simp at hl
        exact ⟨x, y, z, rfl⟩
      have hd : isDat x = true ∧ isDat y = true ∧ isDat z = true := by simpa [isDat, areDat] using h
      obtain ⟨dx, dy, dz⟩ := hd
      have zt : ∀ fr st, deref fr st z = z := deref_pl (pl_dat dz)
      have hcut : cutF none (some 2) (.seq true [x, y, z]) = some (.seq true [x, y]) := rfl
      have o1 : ∀ (i : Int) (fr : Frm) (st : Sto), evO G (.cst (.int i)) fr st = .ok (some i) st := fun i fr st => rfl
      have bx := szS_ok G x [some (.val (.seq true [x, y, z])), some (.val (.int p)), some (.val x), none, none] st dx rfl
      have by_ := szS_ok G y [some (.val (.seq true [x, y, z])), some (.val (.int p)), some (.val y), none, none] st dy rfl
      have e0 : runFn G P_law_is_matrix [.seq true [x, y, z], .int p] st = outR (exS G (.seq (.ite (.or (.cons (.not (.isi (.var 0) [.tuple])) (.cons (.cmp .ne (.blt .len (.cons (.var 0) .nil)) (.cst (.int 3))) .nil))) (.seq (.ret (.cst (.bl false))) .nop) .nop)
        (.seq (.for (.nm 2) (.itS (.slc (.var 0) .nil (.cst (.int 2)))) szS)
        (.seq (.ite (.or (.cons (.not (.isi (.sub (.var 0) (.cst (.int 2))) [.tuple])) (.cons (.cmp .ne (.blt .len (.cons (.sub (.var 0) (.cst (.int 2))) .nil)) (.sub (.var 0) (.cst (.int 0)))) .nil))) (.seq (.ret (.cst (.bl false))) .nop) .nop)
        (.seq (.for (.nm 3) (.itS (.sub (.var 0) (.cst (.int 2)))) rwS) (.seq (.ret (.cst (.bl true))) .nop))))) [some (.val (.seq true [x, y, z])), some (.val (.int p)), none, none, none] st) := rfl
      rw [e0]
      clear e0
      cases hx : isSz x with
      | false =>
        rw [hx] at bx
        have e : isMt p (.seq true [x, y, z]) = false := by
          unfold isMt
          split
          · rename_i a b rows e
            cases e
            split
            · simp only [isSz] at hx
              rw [hx]
              rfl
            · rfl
          · rfl
        simp at bx
        simp [evT, isiAny, isi_tt, truF, cmpF, bltF, blF, outR, e, o1, hcut, seqF, forRun, asg, bx]
      | true =>
        obtain ⟨a, rfl, a1, a2⟩ := sz_int hx
        rw [hx] at bx
        simp at bx
        cases hy : isSz y with
        | false =>
          rw [hy] at by_
          have e : isMt p (.seq true [.int a, y, z]) = false := by
            unfold isMt
            split
            · rename_i b c rows e
              cases e
              split
              · rename_i e2 e3
                simp only [isSz] at hy
                rw [hy]
                simp
              · rfl
            · rfl
          simp at by_
          simp [evT, isiAny, isi_tt, truF, cmpF, bltF, blF, outR, e, o1, hcut, seqF, forRun, asg, bx, by_]
        | true =>
          obtain ⟨b, rfl, b1, b2⟩ := sz_int hy
          rw [hy] at by_
          simp at by_
          by_cases hz : ∃ rows, z = .seq true rows
          · obtain ⟨rows, rfl⟩ := hz
            by_cases hn : (rows.length : Int) = a
            · obtain ⟨fr', hR⟩ := rows_loop G (.int a) (.seq true rows) b p (some (.val (.int b))) st rows none (by simpa [isDat] using dz)
              have e : isMt p (.seq true [.int a, .int b, .seq true rows]) = rows.all (isRw b p) := by
                simp [isMt, a1, a2, b1, b2, hn]
              rw [e]
              cases hq : rows.all (isRw b p) <;> rw [hq] at hR <;> simp only [if_true, Bool.false_eq_true, if_false] at hR <;>
              simp [evT, isiAny, isi_tt, truF, cmpF, bltF, blF, outR, o1, hcut, seqF, forRun, asg, bx, by_, idx0, idx1, idx2, hn, hR]
            · have e : isMt p (.seq true [.int a, .int b, .seq true rows]) = false := by
                simp [isMt, hn]
              simp [evT, isiAny, isi_tt, truF, cmpF, bltF, blF, outR, e, o1, hcut, seqF, forRun, asg, bx, by_, idx0, idx1, idx2, hn]
          · have e : isMt p (.seq true [.int a, .int b, z]) = false := by
              unfold isMt
              split
              · rename_i e
                cases e
                exact absurd ⟨_, rfl⟩ hz
              · rfl
            have e2 := isiT (G := G) dz fun rows q => hz ⟨rows, q⟩
            simp [evT, isiAny, isi_tt, truF, cmpF, bltF, blF, outR, e, o1, hcut, seqF, forRun, asg, bx, by_, idx0, idx1, idx2, zt, e2]
    · have e : isMt p (.seq true xs) = false := by
        unfold isMt
        split
        · rename_i e
          cases e
          exact absurd rfl hl
        · rfl
      have hl2 : ¬ (xs.length : Int) = 3 := by omega
      simp [runFn, P_law_is_matrix, startF, evT, isiAny, isi_tt, truF, cmpF, bltF, blF, outR, e, hl2, hl]
  · have e : isMt p t = false := by
      unfold isMt
      split
      · exact absurd ⟨_, rfl⟩ ht
      · rfl
    have e2 := isiT (G := G) h fun xs q => ht ⟨xs, q⟩
    simp [runFn, P_law_is_matrix, startF, evT, isiAny, dt, e2, truF, blF, outR, e]
end Rp
set_option Elab.async false
set_option linter.all false
set_option maxRecDepth 100000
set_option maxHeartbeats 4000000
/-! The law's primes and matrices. -/
namespace Rp
open PySem PySem.Spec Rm
def dvB (i : Int) : PV → Bool
  | .int k => decide (i.fmod k = 0)
  | _ => false
theorem fm_dv (i : Int) : (rangeF 2 (i - 2).toNat).filter (dvB i) = (((List.range (i - 2).toNat).filter fun k => decide (i.fmod (2 + (k : Nat)) = 0)).map fun k => (2 + (k : Nat) : Int)).map PV.int := by
  unfold rangeF
  rw [List.filter_map, List.map_map]
  rfl
theorem dv_isP (i : Int) (h : 2 ≤ i) (h2 : i ≤ 97) : (decide ((((List.range (i - 2).toNat).filter fun k => decide (i.fmod (2 + (k : Nat)) = 0)).map fun k => (2 + (k : Nat) : Int)) = [])) = isP i := by
  have hP : isP i = ((List.range (i - 2).toNat).all fun k => decide (i.fmod (2 + (k : Nat)) ≠ 0)) := by
    unfold isP
    rw [decide_eq_true ⟨h, h2⟩, Bool.true_and]
  rw [hP, Bool.eq_iff_iff, decide_eq_true_eq, List.map_eq_nil_iff, List.filter_eq_nil_iff, List.all_eq_true]
  simp
/-- the numbers below that divide -/
theorem div_in (G : Sig) (i : Int) (a b : Option FV) (st : Sto) : compRun (evE G (.var 3)) (evC G (.cmp .eq (.bin .mod (.var 2) (.var 3)) (.cst (.int 0)))) (.nm 3) [a, b, some (.val (.int i)), none] (rangeF 2 (i - 2).toNat) [] st = .ok ((rangeF 2 (i - 2).toNat).filter (dvB i)) st := by
  rw [comp_filter (by simp) (dvB i) _ [] (fun x hx => ?_)]
  · simp
  · unfold rangeF at hx
    obtain ⟨k, hk, rfl⟩ := List.mem_map.mp hx
    have hz : (2 + (k : Int)) ≠ 0 := by omega
    rw [evC_some (by intro z; cases z)]
    simp [evT, binF, hz, cmpF, dvB, truF]
theorem comp_of {G : Sig} {own : List Nat} {elt it c : E} {tg : T} {fr : Frm} {st st1 st2 : Sto} {xs ys : List PV} (h1 : evI G it fr st = .ok xs st1) (h2 : compRun (evE G elt) (evC G c) tg (wipeF fr own) xs [] st1 = .ok ys st2) : evE G (.comp own elt tg it c) fr st = .ok (.seq false ys) st2 := by
  rw [zevE_comp, h1, Out.bind_ok, h2, Out.bind_ok]
theorem ev_at {G : Sig} {i : Nat} {fr : Frm} {st : Sto} {p : PV} (h : fr[i]? = some (some (.val p))) : evE G (.var i) fr st = .ok p st := by
  rw [zevE_var, h]
def everyN (m : Nat) : List PV := (rangeF 2 m).filter isPr
theorem everyN_in (G : Sig) (a b : Option FV) (st : Sto) (m : Nat) (hm : m ≤ 96) : compRun (evE G (.var 2)) (evC G (.cmp .eq (.comp [3] (.var 3) (.nm 3) (.itR (.cons (.cst (.int 2)) (.cons (.var 2) .nil))) (.cmp .eq (.bin .mod (.var 2) (.var 3)) (.cst (.int 0)))) (.lst .nil))) (.nm 2) [a, b, none, none] (rangeF 2 m) [] st = .ok (everyN m) st := by
  rw [comp_filter (by simp) isPr _ [] (fun x hx => ?_)]
  · rw [List.nil_append, everyN]
  · unfold rangeF at hx
    obtain ⟨k, hk, rfl⟩ := List.mem_map.mp hx
    rw [List.mem_range] at hk
    generalize hi : (2 + (k : Int)) = i
    have h1 : 2 ≤ i := by omega
    have h2 : i ≤ 97 := by omega
    have hr : rngF [.int 2, .int i] = some (rangeF 2 (i - 2).toNat) := rng2 2 i (by omega) (by omega) (by rw [szl]; omega)
    have hd := div_in G i a b st
    rw [evC_some (by intro z; cases z)]
    rw [fm_dv] at hd
    have hp := dv_isP i h1 h2
    generalize (((List.range (i - 2).toNat).filter fun k => decide (i.fmod (2 + (k : Nat)) = 0)).map fun k => (2 + (k : Nat) : Int)) = L at hd hp
    have e1 : evE G (.comp [3] (.var 3) (.nm 3) (.itR (.cons (.cst (.int 2)) (.cons (.var 2) .nil))) (.cmp .eq (.bin .mod (.var 2) (.var 3)) (.cst (.int 0)))) [a, b, some (.val (.int i)), none] st = .ok (.seq false (L.map PV.int)) st := by
      refine comp_of (xs := rangeF 2 (i - 2).toNat) (st1 := st) ?_ ?_
      · rw [zevI_itR, zevL_cons, zevE_cst, Out.bind_ok, zevL_cons, ev_at (p := .int i) rfl, Out.bind_ok, zevL_nil, Out.bind_ok, Out.bind_ok, Out.bind_ok, hr]
        rfl
      · rw [show wipeF [a, b, some (.val (.int i)), none] [3] = [a, b, some (.val (.int i)), none] from rfl]
        exact hd
    have e2 : evE G (.lst .nil) [a, b, some (.val (.int i)), none] st = .ok (.seq false []) st := by
      rw [zevE_lst, zevL_nil, Out.bind_ok, if_pos ⟨rfl, by simp⟩]
    have e3 : evT G (.cmp .eq (.comp [3] (.var 3) (.nm 3) (.itR (.cons (.cst (.int 2)) (.cons (.var 2) .nil))) (.cmp .eq (.bin .mod (.var 2) (.var 3)) (.cst (.int 0)))) (.lst .nil)) [a, b, some (.val (.int i)), none] st = .ok (isP i) st := by
      unfold evT
      rw [zevE_cmp, e1, Out.bind_ok, e2, Out.bind_ok, deref_seq, deref_seq]
      show (((Out.of (eqF (.seq false (L.map PV.int)) (.seq false [])) st).bind fun k st => .ok (PV.bl k) st).bind _) = _
      rw [eqF_nil, hp]
      rfl
    refine ⟨e3, ?_, rfl⟩
    rw [zevE_var]
    rfl
theorem everyN_pr (m : Nat) : ∀ x ∈ everyN m, isPr x = true := fun x hx => (List.mem_filter.mp hx).2
theorem everyN_ne (m : Nat) (h : 0 < m) : everyN m ≠ [] := List.ne_nil_of_mem (a := PV.int 2) (List.mem_filter.mpr ⟨List.mem_map.mpr ⟨0, List.mem_range.mpr h, rfl⟩, by decide⟩)
theorem everyN_len (m : Nat) : (everyN m).length ≤ m := Nat.le_trans (List.length_filter_le ..) (by simp [rangeF])
theorem keep_prs {xs : List PV} (h : ∀ x ∈ xs, isPr x = true) : keepAll xs = true := List.all_eq_true.mpr fun x hx => by
  have := h x hx
  rw [pr_int this]
  rfl
def PLawOk (G : Sig) (f : Nat) : Prop := ∀ (cs : List Int) (a z : Int), 0 ≤ a → a < 99900 →
  ∃ (p a' v : Int), G.call f [.ref 0] (pen cs a z) = .ok (.int p) (pen cs a' v) ∧ isP p = true ∧ a ≤ a' ∧ a' ≤ a + 3
theorem plaw_run (G : Sig) (fo : Nat) (ho : OneOk G fo) (cs : List Int) (a z : Int) (h0 : 0 ≤ a) (h1 : a < 99900) : ∃ (p a' v : Int), runFn G (P_law_prime fo) [.ref 0] (pen cs a z) = .ok (.int p) (pen cs a' v) ∧ isP p = true ∧ a ≤ a' ∧ a' ≤ a + 3 := by
  have hr : rngF [.int 2, .int 98] = some (rangeF 2 96) := rng2 2 98 (by omega) (by omega) (by rw [szl]; omega)
  have hc := everyN_in G (some (.val (.ref 0))) none (pen cs a z) 96 (Nat.le_refl _)
  have every_pr := everyN_pr 96
  have every_ne := everyN_ne 96 (by decide)
  have every_len := everyN_len 96
  generalize everyN 96 = every at hc every_pr every_ne every_len
  generalize rangeF 2 96 = rg at hc hr
  have kE := keep_prs every_pr
  obtain ⟨p1, a1, v1, e1, m1, b1, b2⟩ := ho cs a z every h0 (by omega) every_ne (by omega) kE
  obtain ⟨p2, a2, v2, e2, m2, b3, b4⟩ := ho cs a1 v1 every (by omega) (by omega) every_ne (by omega) kE
  have q1 := every_pr _ m1
  have q2 := every_pr _ m2
  have hl : ∀ x ∈ [PV.int 2, .int 3, .int 2, .int 5, .int 3, p1, p2], isPr x = true := by
    intro x hx
    simp only [List.mem_cons, List.not_mem_nil, or_false] at hx
    rcases hx with rfl | rfl | rfl | rfl | rfl | rfl | rfl <;> first | assumption | decide +kernel
  obtain ⟨p3, a3, v3, e3, m3, b5, b6⟩ := ho cs a2 v2 [PV.int 2, .int 3, .int 2, .int 5, .int 3, p1, p2] (by omega) (by omega) (by simp) (by simp) (keep_prs hl)
  have q3 := hl _ m3
  have k1 : keep p1 = true := by rw [pr_int q1]; rfl
  have k2 : keep p2 = true := by rw [pr_int q2]; rfl
  have k3 : keep p3 = true := by rw [pr_int q3]; rfl
  have e4 := pr_int q3
  refine ⟨iv p3, a3, v3, ?_, by rw [e4] at q3; exact q3, by omega, by omega⟩
  rw [← e4]
  have hc2 : evE G (.comp [2] (.var 2) (.nm 2) (.itR (.cons (.cst (.int 2)) (.cons (.cst (.int 98)) .nil))) (.cmp .eq (.comp [3] (.var 3) (.nm 3) (.itR (.cons (.cst (.int 2)) (.cons (.var 2) .nil))) (.cmp .eq (.bin .mod (.var 2) (.var 3)) (.cst (.int 0)))) (.lst .nil))) [some (.val (.ref 0)), none, none, none] (pen cs a z) = .ok (.seq false every) (pen cs a z) := by
    rw [zevE_comp]
    simp only [zevI_itR, zevL_cons, zevL_nil, zevE_cst, Out.bind_ok, hr, Out.of_some]
    rw [show wipeF [some (FV.val (.ref 0)), none, none, none] [2] = [some (.val (.ref 0)), none, none, none] from rfl, hc, Out.bind_ok]
  show outR (exS G (P_law_prime fo).body [some (.val (.ref 0)), none, none, none] (pen cs a z)) = _
  unfold P_law_prime
  dsimp only
  rw [seq_set (st' := pen cs a z) (p := .seq false every) hc2 rfl (by simp)]
  simp [kE, e1, e2, e3, k1, k2, k3, szl, outR]
end Rp
set_option Elab.async false
set_option linter.all false
set_option maxRecDepth 100000
set_option maxHeartbeats 4000000
/-! The law's matrices. -/
namespace Rp
open PySem PySem.Spec Rm
theorem then_nx_of {r : Res} {k : Frm → Sto → Res} {fr : Frm} {st : Sto} (h : r = .nx fr st) : r.then k = k fr st := by rw [h]; rfl
theorem ev_bin {G : Sig} {op : Op} {a b : E} {fr : Frm} {st st1 st2 : Sto} {x y z : PV} (h1 : evE G a fr st = .ok x st1) (h2 : evE G b fr st1 = .ok y st2) (h : binF op (deref fr st2 x) (deref fr st2 y) = some z) : evE G (.bin op a b) fr st = .ok z st2 := by
  rw [zevE_bin, h1, Out.bind_ok, h2, Out.bind_ok, h]; rfl
theorem ev_call2 {G : Sig} {f : Nat} {a b : E} {fr : Frm} {st st1 st2 st3 : Sto} {x y z : PV} (h1 : evE G a fr st = .ok x st1) (h2 : evE G b fr st1 = .ok y st2) (kx : keep x = true) (ky : keep y = true) (h : G.call f [x, y] st2 = .ok z st3) : evE G (.call f (.cons a (.cons b .nil)) .nil) fr st = .ok z st3 := by
  simp [h1, h2, kx, ky, h]
/-- a call of take -/
theorem ev_take {G : Sig} {f : Nat} (ht : TakeOk G f) {b : E} {fr : Frm} {cs : List Int} {a z many : Int} (f0 : fr[0]? = some (some (.val (.ref 0)))) (hb : evE G b fr (pen cs a z) = .ok (.int many) (pen cs a z)) (h0 : 0 ≤ a) (h1 : a < 99990) (h2 : 1 ≤ many) (h3 : many < 1073741824) :
    ∃ (r a' v : Int), evE G (.call f (.cons (.var 0) (.cons b .nil)) .nil) fr (pen cs a z) = .ok (.int r) (pen cs a' v) ∧ 0 ≤ r ∧ r < many ∧ a ≤ a' ∧ a' ≤ a + 1 := by
  obtain ⟨r, a', v, e, g⟩ := ht cs a z many h0 h1 h2 h3
  exact ⟨r, a', v, ev_call2 (ev_at f0) hb rfl rfl e, g⟩
/-- a comprehension whose items take from the pen -/
theorem comp_pen {els : Frm → Sto → Out PV} {i : Nat} {fr : Frm} {cs : List Int} (hi : i < fr.length) (c B : Int) (hc : 0 ≤ c) (Q : PV → Prop) : ∀ (xs acc : List PV) (a z : Int), 0 ≤ a → a + c * xs.length ≤ B →
    (∀ x ∈ xs, ∀ a z, 0 ≤ a → a + c ≤ B → ∃ (y : PV) (a' v : Int), els (fr.set i (some (.val x))) (pen cs a z) = .ok y (pen cs a' v) ∧ Q y ∧ keep y = true ∧ a ≤ a' ∧ a' ≤ a + c) →
    ∃ (ys : List PV) (a' v : Int), compRun els (fun _ st => .ok true st) (.nm i) fr xs acc (pen cs a z) = .ok (acc ++ ys) (pen cs a' v) ∧ ys.length = xs.length ∧ (∀ y ∈ ys, Q y) ∧ a ≤ a' ∧ a' ≤ a + c * xs.length
  | [], acc, a, z, h0, hB, _ => ⟨[], a, z, by simp [compRun], rfl, (fun y hy => by cases hy), Int.le_refl _, by simp⟩
  | x :: xs, acc, a, z, h0, hB, h => by
    have e : c * ((x :: xs).length : Int) = c * (xs.length : Int) + c := by
      rw [List.length_cons, Int.natCast_add, Int.mul_add]
      omega
    rw [e] at hB ⊢
    have hp : 0 ≤ c * (xs.length : Int) := Int.mul_nonneg hc (Int.natCast_nonneg _)
    obtain ⟨y, a1, v1, h1, h2, h3, h4, h5⟩ := h x List.mem_cons_self a z h0 (by omega)
    obtain ⟨ys, a2, v2, g1, g2, g3, g4, g5⟩ := comp_pen hi c B hc Q xs (acc ++ [y]) a1 v1 (by omega) (by omega) fun y hy => h y (List.mem_cons_of_mem _ hy)
    refine ⟨y :: ys, a2, v2, ?_, by rw [List.length_cons, List.length_cons, g2], fun w hw => ?_, by omega, by omega⟩
    · unfold compRun
      simp only [asg, hi, if_true, h1, h3]
      rw [g1, List.append_assoc]
      rfl
    · rcases List.mem_cons.mp hw with rfl | hw
      · exact h2
      · exact g3 w hw
/-- a for over a range whose turns take from the pen -/
theorem for_pen {body : Frm → Sto → Res} {t : T} {cs : List Int} (c B : Int) (hc : 0 ≤ c) (I : Int → Frm → Prop) : ∀ (k : Nat) (lo : Int) (fr : Frm) (a z : Int), 0 ≤ a → a + c * k ≤ B → I lo fr →
    (∀ (j : Int) (fr : Frm) (a z : Int), lo ≤ j → j < lo + k → 0 ≤ a → a + c ≤ B → I j fr → ∃ (fr1 fr2 : Frm) (a' v : Int), asg t (.int j) fr = some fr1 ∧ body fr1 (pen cs a z) = .nx fr2 (pen cs a' v) ∧ I (j + 1) fr2 ∧ a ≤ a' ∧ a' ≤ a + c) →
    ∃ (fr' : Frm) (a' v : Int), forRun t body ((List.range k).map fun j => PV.int (lo + (j : Nat))) fr (pen cs a z) = .nx fr' (pen cs a' v) ∧ I (lo + k) fr' ∧ a ≤ a' ∧ a' ≤ a + c * k
  | 0, lo, fr, a, z, _, _, hI, _ => ⟨fr, a, z, rfl, by simpa using hI, Int.le_refl _, by simp⟩
  | k + 1, lo, fr, a, z, h0, hB, hI, h => by
    have e : c * ((k + 1 : Nat) : Int) = c * (k : Int) + c := by
      rw [Int.natCast_add, Int.mul_add]
      omega
    rw [e] at hB ⊢
    have hp : 0 ≤ c * (k : Int) := Int.mul_nonneg hc (Int.natCast_nonneg _)
    obtain ⟨fr1, fr2, a1, v1, h1, h2, h3, h4, h5⟩ := h lo fr a z (Int.le_refl _) (by omega) h0 (by omega) hI
    obtain ⟨fr', a2, v2, g1, g2, g3, g4⟩ := for_pen c B hc I k (lo + 1) fr2 a1 v1 (by omega) (by omega) h3 fun j fr a z j1 j2 => h j fr a z (by omega) (by omega)
    refine ⟨fr', a2, v2, ?_, by rw [show lo + ((k + 1 : Nat) : Int) = lo + 1 + (k : Int) by omega]; exact g2, by omega, by omega⟩
    rw [List.range_succ_eq_map, List.map_cons, List.map_map]
    have e2 : ((fun j : Nat => PV.int (lo + (j : Nat))) ∘ Nat.succ) = fun j : Nat => PV.int (lo + 1 + (j : Nat)) := by
      funext j
      show PV.int (lo + ((j + 1 : Nat) : Int)) = _
      congr 1
      omega
    rw [e2]
    unfold forRun
    simp only [Int.natCast_zero, Int.add_zero, h1, h2]
    exact g1
theorem last_of {ns : List PV} (h : ns ≠ []) : ∃ r ∈ ns, idxF (.seq false ns) (.int (-1)) = some r := by
  have hl : 0 < ns.length := List.length_pos_iff.mpr h
  refine ⟨ns[ns.length - 1], List.getElem_mem _, ?_⟩
  show L2.atI ns (-1) = _
  unfold L2.atI L2.ixN
  rw [if_neg (by decide), if_pos (by omega)]
  show ns[((-1 : Int) + ns.length).toNat]? = _
  rw [show ((-1 : Int) + ns.length).toNat = ns.length - 1 by omega]
  simp
/-- what the law's matrices are -/
def IsLM (high wide p : Int) (t : PV) : Prop := ∃ rows, t = .seq true [.int high, .int wide, .seq true rows] ∧ (rows.length : Int) = high ∧ ∀ r ∈ rows, isRw wide p r = true
def LMatOk (G : Sig) (f : Nat) : Prop := ∀ (cs : List Int) (a z high wide p : Int), 0 ≤ a → a < 90000 → 0 ≤ high → high ≤ 12 → 0 ≤ wide → wide ≤ 12 → 2 ≤ p → p ≤ 97 →
  ∃ (t : PV) (a' v : Int), G.call f [.ref 0, .int high, .int wide, .int p] (pen cs a z) = .ok t (pen cs a' v) ∧ IsLM high wide p t ∧ a ≤ a' ∧ a' ≤ a + 301
def numE (f : Nat) : E := (.bin .mul (.call f (.cons (.var 0) (.cons (.var 3) .nil)) .nil) (.blt .int (.cons (.or (.cons (.cmp .gt (.var 5) (.cst (.int 0))) (.cons (.cmp .eq (.call f (.cons (.var 0) (.cons (.cst (.int 2)) .nil)) .nil) (.cst (.int 0))) .nil))) .nil)))
theorem num_ok (G : Sig) (f : Nat) (ht : TakeOk G f) {fr : Frm} {cs : List Int} {a z p thin : Int} (f0 : fr[0]? = some (some (.val (.ref 0)))) (f3 : fr[3]? = some (some (.val (.int p)))) (f5 : fr[5]? = some (some (.val (.int thin)))) (h0 : 0 ≤ a) (h1 : a + 2 ≤ 99000) (hp : 2 ≤ p) (hp2 : p ≤ 97) :
    ∃ (y : PV) (a' v : Int), evE G (numE f) fr (pen cs a z) = .ok y (pen cs a' v) ∧ isNm p y = true ∧ keep y = true ∧ a ≤ a' ∧ a' ≤ a + 2 := by
  obtain ⟨r, a1, v1, e1, r0, r1, b1, b2⟩ := ev_take ht (b := .var 3) f0 (ev_at f3) h0 (by omega) (show (1 : Int) ≤ p by omega) (by omega)
  have m0 : binF .mul (.int r) (.int 0) = some (.int (r * 0)) := bmul _ _ (.inr rfl)
  have m1 : binF .mul (.int r) (.int 1) = some (.int (r * 1)) := bmul _ _ (.inr rfl)
  unfold numE
  by_cases hth : 0 < thin
  · refine ⟨.int (r * 1), a1, v1, ev_bin e1 (st2 := pen cs a1 v1) (y := .int 1) (by simp [ev_at f5, cmpF, hth, blF, bltF]) m1, by simp [isNm, r0, r1], rfl, b1, by omega⟩
  · obtain ⟨r2, a2, v2, e2, s0, s1, b3, b4⟩ := ev_take ht (b := .cst (.int 2)) (many := 2) f0 (zevE_cst ..) (show 0 ≤ a1 by omega) (by omega) (by decide) (by decide) (cs := cs) (z := v1)
    have e5 := ev_at (G := G) (st := pen cs a1 v1) f5
    have e3 : evE G (.blt .int (.cons (.or (.cons (.cmp .gt (.var 5) (.cst (.int 0))) (.cons (.cmp .eq (.call f (.cons (.var 0) (.cons (.cst (.int 2)) .nil)) .nil) (.cst (.int 0))) .nil))) .nil)) fr (pen cs a1 v1) = .ok (.int (if decide (r2 = 0) = true then 1 else 0)) (pen cs a2 v2) := by
      rw [zevE_blt, zevL_cons, zevE_or, zevR_cons, zevE_cmp, e5]
      simp only [Out.bind_ok, zevE_cst, deref_int, cmpF, decide_eq_false hth, Out.of_some, blF, Bool.false_eq_true, if_false]
      rw [zevR_cons, zevE_cmp, e2]
      simp only [Out.bind_ok, zevE_cst, deref_int, cmpF, eqF_int, Out.of_some, blF, zevR_nil]
      cases hq : decide (r2 = 0) <;> simp [bltF]
    cases hq : decide (r2 = 0) <;> rw [hq] at e3
    · exact ⟨.int (r * 0), a2, v2, ev_bin e1 e3 m0, by simp [isNm]; omega, rfl, by omega, by omega⟩
    · exact ⟨.int (r * 1), a2, v2, ev_bin e1 e3 m1, by simp [isNm, r0, r1], rfl, by omega, by omega⟩
def lmB (f : Nat) : S := (.seq (.set 7 (.comp [8] (numE f) (.nm 8) (.itR (.cons (.var 2) .nil)) .nil))
  (.seq (.ite (.and (.cons (.cmp .gt (.var 6) (.cst (.int 0))) (.cons (.cmp .eq (.call f (.cons (.var 0) (.cons (.cst (.int 4)) .nil)) .nil) (.cst (.int 0))) .nil)))
   (.seq (.set 7 (.sub (.var 4) (.neg (.cst (.int 1)))))
   .nop)
   .nop)
  (.seq (.app 4 (.blt .tuple (.cons (.var 7) .nil)))
  .nop)))
def lmF (high wide p thin : Int) (ns : List PV) (x y : Option FV) : Frm := [some (.val (.ref 0)), some (.val (.int high)), some (.val (.int wide)), some (.val (.int p)), some (.own ns), some (.val (.int thin)), x, y, none]
theorem rw_of {ys : List PV} {wide p : Int} (h : (ys.length : Int) = wide) (h2 : ∀ y ∈ ys, isNm p y = true) : isRw wide p (.seq true ys) = true := by
  simp only [isRw, h, decide_true, Bool.true_and, List.all_eq_true]
  exact h2
theorem lm_comp (G : Sig) (f : Nat) (ht : TakeOk G f) {cs : List Int} {a z high wide p thin : Int} {ns : List PV} {x y : Option FV} (h0 : 0 ≤ a) (h1 : a + 24 ≤ 99000) (hw : 0 ≤ wide) (hw2 : wide ≤ 12) (hp : 2 ≤ p) (hp2 : p ≤ 97) :
    ∃ (ys : List PV) (a' v : Int), evE G (.comp [8] (numE f) (.nm 8) (.itR (.cons (.var 2) .nil)) .nil) (lmF high wide p thin ns x y) (pen cs a z) = .ok (.seq false ys) (pen cs a' v) ∧ (ys.length : Int) = wide ∧ (∀ y ∈ ys, isNm p y = true) ∧ a ≤ a' ∧ a' ≤ a + 24 := by
  have hr : rngF [.int wide] = some (rangeF 0 wide.toNat) := rng1 wide (by omega) (by rw [szl]; omega)
  have hl : (rangeF 0 wide.toNat).length = wide.toNat := by simp [rangeF]
  obtain ⟨ys, a', v, e, l, q, b1, b2⟩ := comp_pen (els := evE G (numE f)) (i := 8) (fr := lmF high wide p thin ns x y) (cs := cs) (by simp [lmF]) 2 99000 (by decide) (fun y => isNm p y = true) (rangeF 0 wide.toNat) [] a z h0 (by rw [hl]; omega)
    fun w _ a z g0 g1 => num_ok G f ht (thin := thin) (by simp [lmF]) (by simp [lmF]) (by simp [lmF]) g0 g1 hp hp2
  rw [hl] at b2
  refine ⟨ys, a', v, comp_of (xs := rangeF 0 wide.toNat) (st1 := pen cs a z) ?_ e, by rw [l, hl]; omega, q, b1, by omega⟩
  rw [zevI_itR, zevL_cons, ev_at (p := .int wide) (by simp [lmF]), Out.bind_ok, zevL_nil, Out.bind_ok, Out.bind_ok, hr]
  rfl
theorem lm_app (G : Sig) {cs : List Int} {a z high wide p thin : Int} {ns : List PV} {x : Option FV} {t : Bool} {ys : List PV} (hn : ns.length < 100) : exS G (.seq (.app 4 (.blt .tuple (.cons (.var 7) .nil))) .nop) (lmF high wide p thin ns x (some (.val (.seq t ys)))) (pen cs a z) = .nx (lmF high wide p thin (ns ++ [.seq true ys]) x (some (.val (.seq t ys)))) (pen cs a z) := by
  have hz : ns.length < 16777216 := by omega
  simp [lmF, lstSlot, bltF, wrF, appF, hz, szl]
theorem lm_step (G : Sig) (f : Nat) (ht : TakeOk G f) {cs : List Int} {a z high wide p thin j : Int} {ns : List PV} {x y : Option FV} (h0 : 0 ≤ a) (h1 : a + 25 ≤ 99000) (hw : 0 ≤ wide) (hw2 : wide ≤ 12) (hp : 2 ≤ p) (hp2 : p ≤ 97) (hj : (ns.length : Int) = j) (hj2 : j < 20) (hns : ∀ r ∈ ns, isRw wide p r = true) :
    ∃ (ns' : List PV) (y' : Option FV) (a' v : Int), exS G (lmB f) (lmF high wide p thin ns (some (.val (.int j))) y) (pen cs a z) = .nx (lmF high wide p thin ns' (some (.val (.int j))) y') (pen cs a' v) ∧ (ns'.length : Int) = j + 1 ∧ (∀ r ∈ ns', isRw wide p r = true) ∧ a ≤ a' ∧ a' ≤ a + 25 := by
  obtain ⟨ys, a1, v1, e1, l1, q1, b1, b2⟩ := lm_comp G f ht (cs := cs) (z := z) (high := high) (thin := thin) (ns := ns) (x := some (.val (.int j))) (y := y) h0 (by omega) hw hw2 hp hp2
  have app : ∀ (t : Bool) (zs : List PV), isRw wide p (.seq true zs) = true → ∀ r ∈ ns ++ [.seq true zs], isRw wide p r = true := fun t zs h r hr => by
    rcases List.mem_append.mp hr with hr | hr
    · exact hns r hr
    · obtain rfl := List.mem_singleton.mp hr
      exact h
  have s1 : ∀ b : S, exS G (.seq (.set 7 (.comp [8] (numE f) (.nm 8) (.itR (.cons (.var 2) .nil)) .nil)) b) (lmF high wide p thin ns (some (.val (.int j))) y) (pen cs a z) = exS G b (lmF high wide p thin ns (some (.val (.int j))) (some (.val (.seq false ys)))) (pen cs a1 v1) := fun b => seq_set e1 rfl (by simp [lmF])
  have row := rw_of l1 q1
  unfold lmB
  rw [s1]
  have hf6 : (lmF high wide p thin ns (some (.val (.int j))) (some (.val (.seq false ys))))[6]? = some (some (.val (.int j))) := rfl
  have hf0 : (lmF high wide p thin ns (some (.val (.int j))) (some (.val (.seq false ys))))[0]? = some (some (.val (.ref 0))) := rfl
  by_cases hp0 : 0 < j
  · obtain ⟨r, a2, v2, e2, r0, r1, b3, b4⟩ := ev_take ht (b := .cst (.int 4)) (many := 4) (fr := lmF high wide p thin ns (some (.val (.int j))) (some (.val (.seq false ys)))) (cs := cs) (z := v1) hf0 (zevE_cst ..) (show 0 ≤ a1 by omega) (by omega) (by decide) (by decide)
    have tst : evT G (.and (.cons (.cmp .gt (.var 6) (.cst (.int 0))) (.cons (.cmp .eq (.call f (.cons (.var 0) (.cons (.cst (.int 4)) .nil)) .nil) (.cst (.int 0))) .nil))) (lmF high wide p thin ns (some (.val (.int j))) (some (.val (.seq false ys)))) (pen cs a1 v1) = .ok (decide (r = 0)) (pen cs a2 v2) := by
      unfold evT
      rw [zevE_and, zevA_cons, zevE_cmp, ev_at hf6]
      simp only [Out.bind_ok, zevE_cst, deref_int, cmpF, decide_eq_true hp0, Out.of_some, blF, if_true]
      rw [zevA_cons, zevE_cmp, e2]
      simp only [Out.bind_ok, zevE_cst, deref_int, cmpF, eqF_int, Out.of_some, blF, zevA_nil]
      cases hq : decide (r = 0) <;> simp [truF]
    cases hq : decide (r = 0) <;> rw [hq] at tst
    · refine ⟨ns ++ [.seq true ys], some (.val (.seq false ys)), a2, v2, ?_, by simp; omega, app false ys row, by omega, by omega⟩
      rw [seq_itF tst]
      exact lm_app G (by omega)
    · obtain ⟨w, hw, ei⟩ := last_of (ns := ns) (fun z => by subst z; simp at hj; omega)
      obtain ⟨zs, rfl⟩ : ∃ zs, w = .seq true zs := by
        have := hns w hw
        cases w <;> first | exact nomatch (show false = true from this) | skip
        rename_i t zs
        cases t <;> first | exact nomatch (show false = true from this) | exact ⟨zs, rfl⟩
      have e3 : evE G (.sub (.var 4) (.neg (.cst (.int 1)))) (lmF high wide p thin ns (some (.val (.int j))) (some (.val (.seq false ys)))) (pen cs a2 v2) = .ok (.seq true zs) (pen cs a2 v2) := by
        have o : evE G (.var 4) (lmF high wide p thin ns (some (.val (.int j))) (some (.val (.seq false ys)))) (pen cs a2 v2) = .ok (.loc 4) (pen cs a2 v2) := rfl
        rw [zevE_sub, o, Out.bind_ok, zevE_neg, zevE_cst, Out.bind_ok]
        show (Out.of (idxF (.seq false ns) (.int (-1))) _ : Out PV) = _
        rw [ei]
        rfl
      refine ⟨ns ++ [.seq true zs], some (.val (.seq true zs)), a2, v2, ?_, by simp; omega, app false zs (hns _ hw), by omega, by omega⟩
      rw [seq_itT tst, seq_set e3 rfl (by simp [lmF])]
      show Res.then (exS G .nop (lmF high wide p thin ns (some (.val (.int j))) (some (.val (.seq true zs)))) (pen cs a2 v2)) _ = _
      rw [zexS_nop, Res.then_nx]
      exact lm_app G (by omega)
  · have tst : evT G (.and (.cons (.cmp .gt (.var 6) (.cst (.int 0))) (.cons (.cmp .eq (.call f (.cons (.var 0) (.cons (.cst (.int 4)) .nil)) .nil) (.cst (.int 0))) .nil))) (lmF high wide p thin ns (some (.val (.int j))) (some (.val (.seq false ys)))) (pen cs a1 v1) = .ok false (pen cs a1 v1) := by
      unfold evT
      rw [zevE_and, zevA_cons, zevE_cmp, ev_at hf6]
      simp only [Out.bind_ok, zevE_cst, deref_int, cmpF, decide_eq_false hp0, Out.of_some, blF, Bool.false_eq_true, if_false]
      rfl
    refine ⟨ns ++ [.seq true ys], some (.val (.seq false ys)), a1, v1, ?_, by simp; omega, app false ys row, by omega, by omega⟩
    rw [seq_itF tst]
    exact lm_app G (by omega)
theorem lmat_run (G : Sig) (f : Nat) (ht : TakeOk G f) (cs : List Int) (a z high wide p : Int) (h0 : 0 ≤ a) (h1 : a < 90000) (hh : 0 ≤ high) (hh2 : high ≤ 12) (hw : 0 ≤ wide) (hw2 : wide ≤ 12) (hp : 2 ≤ p) (hp2 : p ≤ 97) :
    ∃ (t : PV) (a' v : Int), runFn G (P_law_matrix f) [.ref 0, .int high, .int wide, .int p] (pen cs a z) = .ok t (pen cs a' v) ∧ IsLM high wide p t ∧ a ≤ a' ∧ a' ≤ a + 301 := by
  obtain ⟨thin, a1, v1, e1, r0, r1, b1, b2⟩ := ev_take ht (b := .cst (.int 3)) (many := 3) (fr := [some (.val (.ref 0)), some (.val (.int high)), some (.val (.int wide)), some (.val (.int p)), some (.own []), none, none, none, none]) (cs := cs) (z := z) rfl (zevE_cst ..) h0 (by omega) (by decide) (by decide)
  have hr : rngF [.int high] = some (rangeF 0 high.toNat) := rng1 high (by omega) (by rw [szl]; omega)
  obtain ⟨fr', a2, v2, e2, ⟨ns, x, y, rfl, l2, q2⟩, b3, b4⟩ := for_pen (body := exS G (lmB f)) (t := .nm 6) (cs := cs) 25 99000 (by decide) (fun n fr => ∃ ns x y, fr = lmF high wide p thin ns x y ∧ (ns.length : Int) = n ∧ ∀ r ∈ ns, isRw wide p r = true) high.toNat 0 (lmF high wide p thin [] none none) a1 v1 (by omega) (by omega)
    ⟨[], none, none, rfl, rfl, fun r hr => by cases hr⟩ fun j fr a z j0 j1 g0 g1 ⟨ns, x, y, hfr, l, q⟩ => by
      subst hfr
      obtain ⟨ns', y', a', v, e, l', q', c1, c2⟩ := lm_step G f ht (cs := cs) (z := z) (high := high) (thin := thin) (x := x) (y := y) g0 g1 hw hw2 hp hp2 l (by omega) q
      exact ⟨_, _, a', v, by simp [asg, lmF], e, ⟨ns', _, y', rfl, l', q'⟩, c1, c2⟩
  refine ⟨.seq true [.int high, .int wide, .seq true ns], a2, v2, ?_, ⟨ns, rfl, by omega, q2⟩, by omega, by omega⟩
  have s1 : ∀ b : S, exS G (.seq (.own 4 (.lst .nil)) b) [some (.val (.ref 0)), some (.val (.int high)), some (.val (.int wide)), some (.val (.int p)), none, none, none, none, none] (pen cs a z) = exS G b [some (.val (.ref 0)), some (.val (.int high)), some (.val (.int wide)), some (.val (.int p)), some (.own []), none, none, none, none] (pen cs a z) := fun b => by
    simp [ownF, Res.ofF]
  show outR (exS G (.seq (.own 4 (.lst .nil)) (.seq (.set 5 (.call f (.cons (.var 0) (.cons (.cst (.int 3)) .nil)) .nil)) (.seq (.for (.nm 6) (.itR (.cons (.var 1) .nil)) (lmB f)) (.seq (.ret (.tup (.cons (.var 1) (.cons (.var 2) (.cons (.blt .tuple (.cons (.var 4) .nil)) .nil))))) .nop)))) [some (.val (.ref 0)), some (.val (.int high)), some (.val (.int wide)), some (.val (.int p)), none, none, none, none, none] (pen cs a z)) = _
  rw [s1, seq_set e1 rfl (by simp)]
  have e3 : exS G (.for (.nm 6) (.itR (.cons (.var 1) .nil)) (lmB f)) (lmF high wide p thin [] none none) (pen cs a1 v1) = .nx (lmF high wide p thin ns x y) (pen cs a2 v2) := by
    have ei : evI G (.itR (.cons (.var 1) .nil)) (lmF high wide p thin [] none none) (pen cs a1 v1) = .ok (rangeF 0 high.toNat) (pen cs a1 v1) := by
      rw [zevI_itR, zevL_cons, ev_at (p := .int high) rfl, Out.bind_ok, zevL_nil, Out.bind_ok, Out.bind_ok, hr]
      rfl
    rw [zexS_for, ei, Out.res_ok]
    exact e2
  rw [zexS_seq]
  show outR (Res.then (exS G (.for (.nm 6) (.itR (.cons (.var 1) .nil)) (lmB f)) (lmF high wide p thin [] none none) (pen cs a1 v1)) _) = _
  rw [e3, Res.then_nx]
  have hd : ∀ st, deref [some (.val (.ref 0)), some (.val (.int high)), some (.val (.int wide)), some (.val (.int p)), some (.own ns), some (.val (.int thin)), x, y, none] st (.loc 4) = .seq false ns := fun st => rfl
  simp [lmF, bltF, szl, outR, hd]
end Rp
set_option Elab.async false
set_option linter.all false
set_option maxRecDepth 100000
set_option maxHeartbeats 4000000
/-! Refusals; the law's bent matrices. -/
namespace Rp
open PySem PySem.Spec Rm
theorem ref0 (G : Sig) (fm fo fn : Nat) (hA : G.anc = [[0], [1, 0], [2, 0], [3, 0]]) (hm : MatOk G fm 1) (q t : PV) (st : Sto) (hq : pl q = true) (hp : isPr q = false) (ht : isDat t = true) : runFn G (P_law_refused fm fo fn 0 2 3 1) [.int 0, q, t] st = .ok (.seq false [.bl true, .bl false, .bl false]) st := by
  have h := hm t q st ht hq
  rw [hp] at h
  simp only [Bool.false_eq_true, if_false] at h
  have kt := keep_pl (pl_dat ht)
  simp [runFn, P_law_refused, startF, evT, cmpF, truF, h, hq, kt, tryF, hA, isiAny, isiF, outR, szl, setF, Res.ofF]
theorem ref1 (G : Sig) (fm fo fn : Nat) (hA : G.anc = [[0], [1, 0], [2, 0], [3, 0]]) (ho : OnesOk G fo 3) (x y : PV) (st : Sto) (hx : pl x = true) (hs : isSz x = false) : runFn G (P_law_refused fm fo fn 0 2 3 1) [.int 1, x, y] st = .ok (.seq false [.bl false, .bl true, .bl false]) st := by
  have h := ho x st hx
  rw [hs] at h
  simp only [Bool.false_eq_true, if_false] at h
  simp [runFn, P_law_refused, startF, evT, cmpF, truF, h, hx, tryF, hA, isiAny, isiF, outR, szl, setF, Res.ofF]
theorem ref2 (G : Sig) (fm fo fn : Nat) (hA : G.anc = [[0], [1, 0], [2, 0], [3, 0]]) (hn : NouOk G fn 3) (x y : PV) (st : Sto) (hx : pl x = true) (hy : pl y = true) (hs : ¬ (isSz x = true ∧ isSz y = true)) : runFn G (P_law_refused fm fo fn 0 2 3 1) [.int 2, x, y] st = .ok (.seq false [.bl false, .bl true, .bl false]) st := by
  have h := hn x y st hx hy
  rw [if_neg hs] at h
  simp [runFn, P_law_refused, startF, evT, cmpF, truF, h, hx, hy, tryF, hA, isiAny, isiF, outR, szl, setF, Res.ofF]
/-! ### bent -/
theorem cut_sm (t : Bool) (lo hi : Option Int) (xs : List PV) : ∃ ys, cutF lo hi (.seq t xs) = some (.seq t ys) ∧ (∀ d w, Sms d w xs → Sms d w ys) ∧ ys.length ≤ xs.length :=
  ⟨_, rfl, fun d w h => (h.drop _).take _, by rw [List.length_take, List.length_drop]; omega⟩
theorem seq_nx {G : Sig} {a b : S} {fr fr1 : Frm} {st st1 : Sto} (h : exS G a fr st = .nx fr1 st1) : exS G (.seq a b) fr st = exS G b fr1 st1 := by
  rw [zexS_seq, h, Res.then_nx]
theorem seq_rt {G : Sig} {a b : S} {fr : Frm} {st st1 : Sto} {p : PV} (h : exS G a fr st = .rt p st1) : exS G (.seq a b) fr st = .rt p st1 := by
  rw [zexS_seq, h, Res.then_rt]
theorem own_nx {G : Sig} {i : Nat} {e : E} {fr : Frm} {st st1 : Sto} {xs : List PV} (h : evE G e fr st = .ok (.seq false xs) st1) (hi : i < fr.length) : exS G (.own i e) fr st = .nx (fr.set i (some (.own xs))) st1 := by
  rw [zexS_own, h, Out.res_ok, ownF, if_pos hi, Res.ofF]
theorem set_nx {G : Sig} {i : Nat} {e : E} {fr : Frm} {st st1 : Sto} {p : PV} (h : evE G e fr st = .ok p st1) (hk : keep p = true) (hi : i < fr.length) : exS G (.set i e) fr st = .nx (fr.set i (some (.val p))) st1 := by
  rw [zexS_set, h, Out.res_ok, setF, if_pos ⟨hk, hi⟩, Res.ofF]
theorem own_add {G : Sig} {i : Nat} {e : E} {fr : Frm} {st st1 : Sto} {xs ys : List PV} (h0 : fr[i]? = some (some (.own xs))) (h : evE G e fr st = .ok (.seq false ys) st1) (hl : xs.length + ys.length ≤ 16777216) : evE G (.bin .add (.var i) e) fr st = .ok (.seq false (xs ++ ys)) st1 := by
  have e1 : evE G (.var i) fr st = .ok (.loc i) st := by rw [zevE_var, h0]
  have e2 : deref fr st1 (.loc i) = .seq false xs := by simp only [deref, h0]
  rw [zevE_bin, e1, Out.bind_ok, h, Out.bind_ok, e2, deref_seq]
  show (Out.of (if false = false ∧ fits (xs.length + ys.length) = true then some (PV.seq false (xs ++ ys)) else none) st1) = _
  rw [if_pos ⟨rfl, by rw [fits_eq, szl]; exact hl⟩]
  rfl
theorem val_add {G : Sig} {i : Nat} {e : E} {fr : Frm} {st st1 : Sto} {xs ys : List PV} (h0 : fr[i]? = some (some (.val (.seq false xs)))) (h : evE G e fr st = .ok (.seq false ys) st1) (hl : xs.length + ys.length ≤ 16777216) : evE G (.bin .add (.var i) e) fr st = .ok (.seq false (xs ++ ys)) st1 := by
  rw [zevE_bin, ev_at h0, Out.bind_ok, h, Out.bind_ok, deref_seq, deref_seq]
  show (Out.of (if false = false ∧ fits (xs.length + ys.length) = true then some (PV.seq false (xs ++ ys)) else none) st1) = _
  rw [if_pos ⟨rfl, by rw [fits_eq, szl]; exact hl⟩]
  rfl
theorem add_tup (xs ys : List PV) (h : xs.length + ys.length ≤ 16777216) : binF .add (.seq true xs) (.seq true ys) = some (.seq true (xs ++ ys)) := by
  show (if true = true ∧ fits (xs.length + ys.length) = true then some (PV.seq true (xs ++ ys)) else none) = _
  rw [if_pos ⟨rfl, by rw [fits_eq, szl]; exact h⟩]
theorem mul_lst (x : PV) (k : Int) (h0 : 0 ≤ k) (h1 : k ≤ 1000) : binF .mul (.seq false [x]) (.int k) = some (.seq false (List.replicate k.toNat x)) := mul_one x k false h0 (by omega)
/-- a list of things, each of a size -/
structure Lst (w n : Nat) (xs : List PV) : Prop where
  a : ∀ x ∈ xs, Sm 5 w x
  n : xs.length ≤ n
theorem Lst.app {w n m : Nat} {xs ys : List PV} (h : Lst w n xs) (h2 : Lst w m ys) : Lst w (n + m) (xs ++ ys) := ⟨fun x hx => by
  rcases List.mem_append.mp hx with hx | hx
  · exact h.a x hx
  · exact h2.a x hx, by rw [List.length_append]; have := h.n; have := h2.n; omega⟩
theorem Lst.nil (w : Nat) : Lst w 0 [] := ⟨(fun x hx => by cases hx), Nat.le_refl _⟩
theorem Lst.cons {w n : Nat} {x : PV} {xs : List PV} (h : Sm 5 w x) (h2 : Lst w n xs) : Lst w (n + 1) (x :: xs) := ⟨fun y hy => by
  rcases List.mem_cons.mp hy with rfl | hy
  · exact h
  · exact h2.a y hy, by rw [List.length_cons]; have := h2.n; omega⟩
theorem Lst.rep {w : Nat} {x : PV} (k : Nat) (h : Sm 5 w x) : Lst w k (List.replicate k x) := ⟨fun y hy => by rw [(List.mem_replicate.mp hy).2]; exact h, by simp⟩
theorem Lst.keep {w n : Nat} {xs : List PV} (h : Lst w n xs) : keepAll xs = true := List.all_eq_true.mpr fun x hx => (h.a x hx).keep
@[simp] theorem evO_int (G : Sig) (i : Int) (fr : Frm) (st : Sto) : evO G (.cst (.int i)) fr st = .ok (some i) st := rfl
@[simp] theorem evO_neg (G : Sig) (i : Int) (fr : Frm) (st : Sto) : evO G (.neg (.cst (.int i))) fr st = .ok (some (-i)) st := rfl
theorem evO_var (G : Sig) {i : Nat} {k : Int} {fr : Frm} (st : Sto) (h : fr[i]? = some (some (.val (.int k)))) : evO G (.var i) fr st = .ok (some k) st := by
  show (evE G (.var i) fr st).bind _ = _
  rw [ev_at h]
  rfl
theorem evO_succ (G : Sig) {i : Nat} {k : Int} {fr : Frm} (st : Sto) (h : fr[i]? = some (some (.val (.int k)))) : evO G (.bin .add (.var i) (.cst (.int 1))) fr st = .ok (some (k + 1)) st := by
  show (evE G (.bin .add (.var i) (.cst (.int 1))) fr st).bind _ = _
  rw [ev_bin (ev_at h) (zevE_cst ..) (z := .int (k + 1)) rfl]
  rfl
def bt1 : S := (.tgt (.tp (.cons (.nm 7) (.cons (.nm 8) (.cons (.nm 9) .nil)))) (.var 1))
def bt2 : S := (.own 3 (.lst (.cons (.cst .non) (.cons (.cst (.int 0)) (.cons (.cst (.str "m")) (.cons (.tup .nil) (.cons (.lst (.cons (.var 7) (.cons (.var 8) (.cons (.var 9) .nil)))) (.cons (.tup (.cons (.var 7) (.cons (.var 8) .nil))) (.cons (.tup (.cons (.var 7) (.cons (.var 8) (.cons (.var 9) (.cons (.cst (.int 0)) .nil))))) .nil)))))))))
def bt3 : S := (.app 3 (.tup (.cons (.var 9) (.cons (.var 7) (.cons (.var 8) .nil)))))
def bt4 : S := (.own 3 (.bin .add (.var 3) (.lst (.cons (.tup (.cons (.bin .add (.var 7) (.cst (.int 1))) (.cons (.var 8) (.cons (.var 9) .nil)))) (.cons (.tup (.cons (.var 7) (.cons (.bin .add (.var 8) (.cst (.int 1))) (.cons (.var 9) .nil)))) (.cons (.tup (.cons (.bin .sub (.var 7) (.cst (.int 1))) (.cons (.var 8) (.cons (.var 9) .nil)))) .nil))))))
def bt5 : S := (.own 3 (.bin .add (.var 3) (.lst (.cons (.tup (.cons (.var 7) (.cons (.var 8) (.cons (.blt .list (.cons (.var 9) .nil)) .nil)))) (.cons (.tup (.cons (.var 8) (.cons (.var 7) (.cons (.var 9) .nil)))) (.cons (.tup (.cons (.var 7) (.cons (.var 8) (.cons (.rev (.var 9)) .nil)))) .nil))))))
def bt6 : S := (.own 3 (.bin .add (.var 3) (.lst (.cons (.tup (.cons (.cmp .eq (.var 7) (.cst (.int 1))) (.cons (.var 8) (.cons (.var 9) .nil)))) (.cons (.tup (.cons (.var 7) (.cons (.blt .str (.cons (.var 8) .nil)) (.cons (.var 9) .nil)))) (.cons (.tup (.cons (.var 7) (.cons (.cst .non) (.cons (.var 9) .nil)))) .nil))))))
def bt7 : S := (.own 3 (.bin .add (.var 3) (.bin .mul (.lst (.cons (.tup (.cons (.var 7) (.cons (.cmp .eq (.var 8) (.cst (.int 1))) (.cons (.var 9) .nil)))) .nil)) (.cst (.int 2)))))
def bt8 : S := (.ite (.and (.cons (.cmp .gt (.var 7) (.cst (.int 1))) (.cons (.cmp .gt (.var 8) (.cst (.int 0))) .nil)))
  (.seq (.own 3 (.bin .add (.var 3) (.bin .mul (.lst (.cons (.tup (.cons (.var 7) (.cons (.var 8) (.cons (.bin .add (.tup (.cons (.slc (.sub (.var 9) (.cst (.int 0))) (.cst (.int 1)) .nil) (.cons (.bin .add (.sub (.var 9) (.cst (.int 1))) (.tup (.cons (.cst (.int 0)) .nil))) .nil))) (.slc (.var 9) (.cst (.int 2)) .nil)) .nil)))) .nil)) (.cst (.int 3)))))
  .nop)
  .nop)
def bt9 (f_law_take f_law_one : Nat) : S := (.ite (.or (.cons (.cmp .eq (.var 9) (.tup .nil)) (.cons (.cmp .eq (.call f_law_take (.cons (.var 0) (.cons (.cst (.int 2)) .nil)) .nil) (.cst (.int 0))) .nil)))
  (.frz 3 (.seq (.ret (.call f_law_one (.cons (.var 0) (.cons (.var 3) .nil)) .nil))
  .nop))
  .nop)
def bt10 (f_law_take : Nat) : S := (.set 4 (.call f_law_take (.cons (.var 0) (.cons (.var 7) .nil)) .nil))
def bt11 : S := (.set 5 (.sub (.var 9) (.var 4)))
def bt12 : S := (.set 6 (.lst (.cons (.bin .add (.var 5) (.tup (.cons (.cst (.int 0)) .nil))) (.cons (.slc (.var 5) (.cst (.int 1)) .nil) (.cons (.blt .list (.cons (.var 5) .nil)) (.cons (.cst .non) .nil))))))
def bt13 (f_law_take f_law_one : Nat) : S := (.ite (.cmp .gt (.var 8) (.cst (.int 0)))
  (.seq (.set 10 (.call f_law_take (.cons (.var 0) (.cons (.var 8) .nil)) .nil))
  (.seq (.own 3 (.lst (.cons (.var 2) (.cons (.bin .sub (.cst (.int 0)) (.cst (.int 1))) (.cons (.cst (.bl true)) (.cons (.cst (.str "0")) (.cons (.bin .sub (.var 2) (.cst (.int 1))) (.cons (.bin .add (.var 2) (.bin .pow (.cst (.int 10)) (.cst (.int 20)))) (.cons (.cst .non) (.cons (.tup (.cons (.cst (.int 0)) .nil)) (.cons (.cst (.bl false)) .nil)))))))))))
  (.frz 3 (.seq (.set 6 (.bin .add (.var 6) (.bin .mul (.lst (.cons (.bin .add (.bin .add (.slc (.var 5) .nil (.var 10)) (.tup (.cons (.call f_law_one (.cons (.var 0) (.cons (.var 3) .nil)) .nil) .nil))) (.slc (.var 5) (.bin .add (.var 10) (.cst (.int 1))) .nil)) .nil)) (.cst (.int 8)))))
  .nop))))
  .nop)
def bt14 : S := (.set 6 (.bin .add (.var 6) (.lst (.cons (.bin .add (.slc (.var 5) .nil (.neg (.cst (.int 1)))) (.tup (.cons (.cst (.str "0")) .nil))) (.cons (.bin .add (.slc (.var 5) .nil (.neg (.cst (.int 1)))) (.tup (.cons (.bin .sub (.var 2) (.cst (.int 1))) .nil))) (.cons (.bin .add (.slc (.var 5) .nil (.neg (.cst (.int 1)))) (.tup (.cons (.bin .add (.var 2) (.bin .pow (.cst (.int 10)) (.cst (.int 20)))) .nil))) (.cons (.bin .add (.slc (.var 5) .nil (.neg (.cst (.int 1)))) (.tup (.cons (.cst .non) .nil))) .nil)))))))
def bt15 (f_law_one : Nat) : S := (.ret (.tup (.cons (.var 7) (.cons (.var 8) (.cons (.bin .add (.bin .add (.slc (.var 9) .nil (.var 4)) (.tup (.cons (.call f_law_one (.cons (.var 0) (.cons (.var 6) .nil)) .nil) .nil))) (.slc (.var 9) (.bin .add (.var 4) (.cst (.int 1))) .nil)) .nil)))))
theorem btbody (f_law_take f_law_one : Nat) : (P_law_bent f_law_take f_law_one).body = (.seq (bt1) (.seq (bt2) (.seq (bt3) (.seq (bt4) (.seq (bt5) (.seq (bt6) (.seq (bt7) (.seq (bt8) (.seq (bt9 f_law_take f_law_one) (.seq (bt10 f_law_take) (.seq (bt11) (.seq (bt12) (.seq (bt13 f_law_take f_law_one) (.seq (bt14) (.seq (bt15 f_law_one) .nop))))))))))))))) := rfl
end Rp
set_option Elab.async false
set_option linter.all false
set_option maxRecDepth 100000
set_option maxHeartbeats 4000000
/-! Defs of k03's text that k02's has not. -/
namespace Rp
open PySem PySem.Spec Rm
/-- flip_of -/
def P_flip_of : Fn := ⟨"flip_of", 1, [], ["one", "rows", "columns", "numbers", "k", "row"],
 (.seq (.tgt (.tp (.cons (.nm 1) (.cons (.nm 2) (.cons (.nm 3) .nil)))) (.var 0))
 (.seq (.ret (.tup (.cons (.var 2) (.cons (.var 1) (.cons (.blt .tuple (.cons (.comp [4] (.blt .tuple (.cons (.comp [5] (.sub (.var 5) (.var 4)) (.nm 5) (.itS (.var 3)) .nil) .nil)) (.nm 4) (.itR (.cons (.var 2) .nil)) .nil) .nil)) .nil)))))
 .nop)), []⟩
/-- product_of -/
def P_product_of (f_flip_of : Nat) : Fn := ⟨"product_of", 3, [], ["one", "other", "prime", "across", "numbers", "row", "column", "a", "b"],
 (.seq (.set 3 (.sub (.call f_flip_of (.cons (.var 1) .nil) .nil) (.cst (.int 2))))
 (.seq (.own 4 (.lst .nil))
 (.seq (.for (.nm 5) (.itS (.sub (.var 0) (.cst (.int 2))))
  (.seq (.app 4 (.blt .tuple (.cons (.comp [6] (.bin .mod (.blt .sum (.cons (.comp [7, 8] (.bin .mul (.var 7) (.var 8)) (.tp (.cons (.nm 7) (.cons (.nm 8) .nil))) (.itZ true (.var 5) (.var 6)) .nil) .nil)) (.var 2)) (.nm 6) (.itS (.var 3)) .nil) .nil)))
  .nop))
 (.seq (.ret (.tup (.cons (.sub (.var 0) (.cst (.int 0))) (.cons (.sub (.var 1) (.cst (.int 1))) (.cons (.blt .tuple (.cons (.var 4) .nil)) .nil)))))
 .nop)))), []⟩
/-- plus_of -/
def P_plus_of : Fn := ⟨"plus_of", 3, [], ["one", "other", "prime", "by", "numbers", "row", "beneath", "a", "b"],
 (.seq (.own 4 (.lst .nil))
 (.seq (.for (.tp (.cons (.nm 5) (.cons (.nm 6) .nil))) (.itZ true (.sub (.var 0) (.cst (.int 2))) (.sub (.var 1) (.cst (.int 2))))
  (.seq (.app 4 (.blt .tuple (.cons (.comp [7, 8] (.bin .mod (.bin .add (.var 7) (.bin .mul (.var 3) (.var 8))) (.var 2)) (.tp (.cons (.nm 7) (.cons (.nm 8) .nil))) (.itZ true (.var 5) (.var 6)) .nil) .nil)))
  .nop))
 (.seq (.ret (.tup (.cons (.sub (.var 0) (.cst (.int 0))) (.cons (.sub (.var 0) (.cst (.int 1))) (.cons (.blt .tuple (.cons (.var 4) .nil)) .nil)))))
 .nop))), [(.int 1)]⟩
/-- times_of -/
def P_times_of : Fn := ⟨"times_of", 3, [], ["number", "one", "prime", "row", "a"],
 (.seq (.ret (.tup (.cons (.sub (.var 1) (.cst (.int 0))) (.cons (.sub (.var 1) (.cst (.int 1))) (.cons (.blt .tuple (.cons (.comp [3] (.blt .tuple (.cons (.comp [4] (.bin .mod (.bin .mul (.var 0) (.var 4)) (.var 2)) (.nm 4) (.itS (.var 3)) .nil) .nil)) (.nm 3) (.itS (.sub (.var 1) (.cst (.int 2)))) .nil) .nil)) .nil)))))
 .nop), []⟩
/-- need_matrices -/
def P_need_matrices (f_need_prime f_has_form c_NoMatrix : Nat) : Fn := ⟨"need_matrices", 2, [], ["things", "prime", "thing"],
 (.seq (.xpr (.call f_need_prime (.cons (.var 1) .nil) .nil))
 (.seq (.for (.nm 2) (.itS (.var 0))
  (.seq (.ite (.not (.call f_has_form (.cons (.var 2) (.cons (.var 1) .nil)) .nil))
   (.seq (.rse c_NoMatrix (.cons (.cst (.str "no matrix by the prime")) .nil))
   .nop)
   .nop)
  .nop))
 .nop)), []⟩
/-- product -/
def P_product (f_need_matrices f_need_fit f_product_of : Nat) : Fn := ⟨"product", 2, ["prime"], ["one", "other", "prime"],
 (.seq (.xpr (.call f_need_matrices (.cons (.lst (.cons (.var 0) (.cons (.var 1) .nil))) (.cons (.var 2) .nil)) .nil))
 (.seq (.xpr (.call f_need_fit (.cons (.cmp .eq (.sub (.var 0) (.cst (.int 1))) (.sub (.var 1) (.cst (.int 0)))) .nil) .nil))
 (.seq (.ret (.call f_product_of (.cons (.var 0) (.cons (.var 1) (.cons (.var 2) .nil))) .nil))
 .nop))), []⟩
/-- plus -/
def P_plus (f_need_matrices f_need_fit f_plus_of : Nat) : Fn := ⟨"plus", 2, ["prime"], ["one", "other", "prime"],
 (.seq (.xpr (.call f_need_matrices (.cons (.lst (.cons (.var 0) (.cons (.var 1) .nil))) (.cons (.var 2) .nil)) .nil))
 (.seq (.xpr (.call f_need_fit (.cons (.cmp .eq (.slc (.var 0) .nil (.cst (.int 2))) (.slc (.var 1) .nil (.cst (.int 2)))) .nil) .nil))
 (.seq (.ret (.call f_plus_of (.cons (.var 0) (.cons (.var 1) (.cons (.var 2) .nil))) .nil))
 .nop))), []⟩
/-- times -/
def P_times (f_need_prime f_is_whole f_need_matrices f_times_of c_NoNumber : Nat) : Fn := ⟨"times", 2, ["prime"], ["number", "one", "prime"],
 (.seq (.xpr (.call f_need_prime (.cons (.var 2) .nil) .nil))
 (.seq (.ite (.not (.call f_is_whole (.cons (.var 0) .nil) .nil))
  (.seq (.rse c_NoNumber (.cons (.cst (.str "no whole number")) .nil))
  .nop)
  .nop)
 (.seq (.xpr (.call f_need_matrices (.cons (.lst (.cons (.var 1) .nil)) (.cons (.var 2) .nil)) .nil))
 (.seq (.ret (.call f_times_of (.cons (.var 0) (.cons (.var 1) (.cons (.var 2) .nil))) .nil))
 .nop)))), []⟩
/-- flipped -/
def P_flipped (f_need_matrices f_flip_of : Nat) : Fn := ⟨"flipped", 1, ["prime"], ["one", "prime"],
 (.seq (.xpr (.call f_need_matrices (.cons (.lst (.cons (.var 0) .nil)) (.cons (.var 1) .nil)) .nil))
 (.seq (.ret (.call f_flip_of (.cons (.var 0) .nil) .nil))
 .nop)), []⟩
/-- _law_wrong_number -/
def P_law_wrong_number (f_law_one f_law_take : Nat) : Fn := ⟨"_law_wrong_number", 3, [], ["pen", "some", "p", "spots", "at", "odd", "line", "lines", "high", "wide", "numbers", "down", "across", "one"],
 (.seq (.set 3 (.comp [4, 13] (.var 4) (.tp (.cons (.nm 4) (.cons (.nm 13) .nil))) (.itE (.var 1)) (.cmp .gt (.bin .mul (.sub (.var 13) (.cst (.int 0))) (.sub (.var 13) (.cst (.int 1)))) (.cst (.int 0)))))
 (.seq (.ite (.cmp .eq (.var 3) (.lst .nil))
  (.seq (.ret (.cst .non))
  .nop)
  .nop)
 (.seq (.set 4 (.call f_law_one (.cons (.var 0) (.cons (.var 3) .nil)) .nil))
 (.seq (.tgt (.tp (.cons (.nm 8) (.cons (.nm 9) (.cons (.nm 10) .nil)))) (.sub (.var 1) (.var 4)))
 (.seq (.par 11 12 (.call f_law_take (.cons (.var 0) (.cons (.var 8) .nil)) .nil) (.call f_law_take (.cons (.var 0) (.cons (.var 9) .nil)) .nil))
 (.seq (.set 5 (.call f_law_one (.cons (.var 0) (.cons (.lst (.cons (.var 2) (.cons (.bin .sub (.cst (.int 0)) (.cst (.int 1))) (.cons (.cst (.bl true)) (.cons (.cst (.str "1")) (.cons (.cst .non) (.cons (.bin .add (.var 2) (.cst (.int 5))) (.cons (.tup (.cons (.cst (.int 0)) .nil)) .nil)))))))) .nil)) .nil))
 (.seq (.set 6 (.bin .add (.bin .add (.slc (.sub (.var 10) (.var 11)) .nil (.var 12)) (.tup (.cons (.var 5) .nil))) (.slc (.sub (.var 10) (.var 11)) (.bin .add (.var 12) (.cst (.int 1))) .nil)))
 (.seq (.set 7 (.bin .add (.bin .add (.slc (.var 10) .nil (.var 11)) (.tup (.cons (.var 6) .nil))) (.slc (.var 10) (.bin .add (.var 11) (.cst (.int 1))) .nil)))
 (.seq (.ret (.bin .add (.bin .add (.slc (.var 1) .nil (.var 4)) (.tup (.cons (.tup (.cons (.var 8) (.cons (.var 9) (.cons (.var 7) .nil)))) .nil))) (.slc (.var 1) (.bin .add (.var 4) (.cst (.int 1))) .nil)))
 .nop))))))))), []⟩
/-- _law_times -/
def P_law_times : Fn := ⟨"_law_times", 3, [], ["one", "other", "p", "numbers", "row", "line", "at", "k"],
 (.seq (.own 3 (.lst .nil))
 (.seq (.for (.nm 4) (.itS (.sub (.var 0) (.cst (.int 2))))
  (.seq (.set 5 (.comp [6] (.bin .mod (.blt .sum (.cons (.comp [7] (.bin .mul (.sub (.var 4) (.var 7)) (.sub (.sub (.sub (.var 1) (.cst (.int 2))) (.var 7)) (.var 6))) (.nm 7) (.itR (.cons (.sub (.var 0) (.cst (.int 1))) .nil)) .nil) .nil)) (.var 2)) (.nm 6) (.itR (.cons (.sub (.var 1) (.cst (.int 1))) .nil)) .nil))
  (.seq (.app 3 (.blt .tuple (.cons (.var 5) .nil)))
  .nop)))
 (.seq (.ret (.tup (.cons (.sub (.var 0) (.cst (.int 0))) (.cons (.sub (.var 1) (.cst (.int 1))) (.cons (.blt .tuple (.cons (.var 3) .nil)) .nil)))))
 .nop))), []⟩
/-- _law_refusal -/
def P_law_refusal (c_NoMatrix c_NoNumber c_NoPrime c_NoFit : Nat) : Fn := ⟨"_law_refusal", 1, [], ["caught", "some"],
 (.seq (.own 1 (.lst (.cons (.isi (.var 0) [(.cls c_NoPrime)]) (.cons (.isi (.var 0) [(.cls c_NoNumber)]) (.cons (.isi (.var 0) [(.cls c_NoMatrix)]) .nil)))))
 (.seq (.app 1 (.isi (.var 0) [(.cls c_NoFit)]))
 (.seq (.ite (.or (.cons (.cmp .ne (.cnt (.var 1) (.cst (.bl true))) (.cst (.int 1))) (.cons (.not (.isi (.var 0) [.vErr])) .nil)))
  (.seq (.ret (.cst (.str "odd")))
  .nop)
  .nop)
 (.seq (.ret (.sub (.lst (.cons (.cst (.str "prime")) (.cons (.cst (.str "number")) (.cons (.cst (.str "matrix")) (.cons (.cst (.str "fit")) .nil))))) (.idx (.var 1) (.cst (.bl true)))))
 .nop)))), []⟩
/-- _law_told -/
def P_law_told (f_product f_plus f_times f_flipped f_law_refusal c_RoomError : Nat) : Fn := ⟨"_law_told", 5, [], ["way", "number", "one", "other", "p", "e", "caught", "found"],
 (.seq (.tgt (.tp (.cons (.nm 6) (.cons (.nm 7) .nil))) (.tup (.cons (.cst .non) (.cons (.cst .non) .nil))))
 (.seq (.try (.seq (.ite (.cmp .eq (.var 0) (.cst (.int 0)))
   (.seq (.set 7 (.call f_product (.cons (.var 2) (.cons (.var 3) .nil)) (.cons (.var 4) .nil)))
   .nop)
   (.seq (.ite (.cmp .eq (.var 0) (.cst (.int 1)))
    (.seq (.set 7 (.call f_plus (.cons (.var 2) (.cons (.var 3) .nil)) (.cons (.var 4) .nil)))
    .nop)
    (.seq (.ite (.cmp .eq (.var 0) (.cst (.int 2)))
     (.seq (.set 7 (.call f_times (.cons (.var 1) (.cons (.var 2) .nil)) (.cons (.var 4) .nil)))
     .nop)
     (.seq (.set 7 (.call f_flipped (.cons (.var 2) .nil) (.cons (.var 4) .nil)))
     .nop))
    .nop))
   .nop))
  .nop) c_RoomError 5 6)
 (.seq (.ret (.ite (.cmp .is_ (.var 6) (.cst .non)) (.var 7) (.call f_law_refusal (.cons (.var 6) .nil) .nil)))
 .nop))), []⟩
/-- _law_due -/
def P_law_due (f_law_times : Nat) : Fn := ⟨"_law_due", 5, [], ["way", "number", "one", "other", "p", "rows", "x", "y", "k", "row", "a", "b"],
 (.seq (.ite (.cmp .eq (.var 0) (.cst (.int 0)))
  (.seq (.ret (.ite (.cmp .eq (.sub (.var 2) (.cst (.int 1))) (.sub (.var 3) (.cst (.int 0)))) (.call f_law_times (.cons (.var 2) (.cons (.var 3) (.cons (.var 4) .nil))) .nil) (.cst (.str "fit"))))
  .nop)
  .nop)
 (.seq (.ite (.cmp .eq (.var 0) (.cst (.int 1)))
  (.seq (.ite (.cmp .ne (.slc (.var 2) .nil (.cst (.int 2))) (.slc (.var 3) .nil (.cst (.int 2))))
   (.seq (.ret (.cst (.str "fit")))
   .nop)
   .nop)
  (.seq (.set 5 (.comp [6, 7] (.blt .tuple (.cons (.comp [10, 11] (.bin .mod (.bin .add (.var 10) (.var 11)) (.var 4)) (.tp (.cons (.nm 10) (.cons (.nm 11) .nil))) (.itZ false (.var 6) (.var 7)) .nil) .nil)) (.tp (.cons (.nm 6) (.cons (.nm 7) .nil))) (.itZ false (.sub (.var 2) (.cst (.int 2))) (.sub (.var 3) (.cst (.int 2)))) .nil))
  (.seq (.ret (.tup (.cons (.sub (.var 2) (.cst (.int 0))) (.cons (.sub (.var 2) (.cst (.int 1))) (.cons (.blt .tuple (.cons (.var 5) .nil)) .nil)))))
  .nop)))
  .nop)
 (.seq (.ite (.cmp .eq (.var 0) (.cst (.int 2)))
  (.seq (.ret (.tup (.cons (.sub (.var 2) (.cst (.int 0))) (.cons (.sub (.var 2) (.cst (.int 1))) (.cons (.blt .tuple (.cons (.comp [9] (.blt .tuple (.cons (.comp [10] (.bin .mod (.bin .mul (.var 1) (.var 10)) (.var 4)) (.nm 10) (.itS (.var 9)) .nil) .nil)) (.nm 9) (.itS (.sub (.var 2) (.cst (.int 2)))) .nil) .nil)) .nil)))))
  .nop)
  .nop)
 (.seq (.ret (.tup (.cons (.sub (.var 2) (.cst (.int 1))) (.cons (.sub (.var 2) (.cst (.int 0))) (.cons (.blt .tuple (.cons (.comp [8] (.blt .tuple (.cons (.comp [9] (.sub (.var 9) (.var 8)) (.nm 9) (.itS (.sub (.var 2) (.cst (.int 2)))) .nil) .nil)) (.nm 8) (.itR (.cons (.sub (.var 2) (.cst (.int 1))) .nil)) .nil) .nil)) .nil)))))
 .nop)))), []⟩
/-- _law_numbers_right -/
def P_law_numbers_right (f_law_wrong_number f_law_told : Nat) : Fn := ⟨"_law_numbers_right", 4, [], ["pen", "one", "some", "p", "wrong", "told", "way"],
 (.seq (.set 4 (.call f_law_wrong_number (.cons (.var 0) (.cons (.tup (.cons (.var 1) .nil)) (.cons (.var 3) .nil))) .nil))
 (.seq (.ite (.cmp .is_ (.var 4) (.cst .non))
  (.seq (.ret (.cst (.bl true)))
  .nop)
  .nop)
 (.seq (.set 5 (.comp [6] (.call f_law_told (.cons (.var 6) (.cons (.cst (.int 2)) (.cons (.sub (.var 4) (.cst (.int 0))) (.cons (.sub (.var 2) (.cst (.int 0))) (.cons (.var 3) .nil))))) .nil) (.nm 6) (.itR (.cons (.cst (.int 4)) .nil)) .nil))
 (.seq (.ret (.cmp .eq (.bin .add (.var 5) (.comp [6] (.call f_law_told (.cons (.var 6) (.cons (.cst (.int 2)) (.cons (.sub (.var 2) (.var 6)) (.cons (.sub (.var 4) (.cst (.int 0))) (.cons (.var 3) .nil))))) .nil) (.nm 6) (.itR (.cons (.cst (.int 2)) .nil)) .nil)) (.bin .mul (.lst (.cons (.cst (.str "matrix")) .nil)) (.cst (.int 6)))))
 .nop)))), []⟩
/-- law -/
def P_law_k03 (f_law_open f_law_prime f_law_anew f_law_take f_law_matrix f_law_one f_law_told f_law_due f_law_numbers_right : Nat) : Fn := ⟨"law", 1, [], ["script", "pen", "turn", "p", "one", "some", "number", "handed", "way", "bad", "odd", "first", "second", "q", "high", "wide", "deep", "other", "wrong", "k"],
 (.seq (.set 1 (.call f_law_open (.cons (.var 0) .nil) .nil))
 (.seq (.for (.nm 2) (.itR (.cons (.cst (.int 6)) .nil))
  (.seq (.set 3 (.call f_law_prime (.cons (.call f_law_anew (.cons (.var 1) .nil) .nil) .nil) .nil))
  (.seq (.par3 14 15 16 (.call f_law_take (.cons (.var 1) (.cons (.cst (.int 6)) .nil)) .nil) (.call f_law_take (.cons (.var 1) (.cons (.cst (.int 6)) .nil)) .nil) (.call f_law_take (.cons (.var 1) (.cons (.cst (.int 6)) .nil)) .nil))
  (.seq (.set 4 (.call f_law_matrix (.cons (.var 1) (.cons (.var 14) (.cons (.var 15) (.cons (.var 3) .nil)))) .nil))
  (.seq (.set 5 (.lst (.cons (.call f_law_matrix (.cons (.var 1) (.cons (.var 15) (.cons (.var 16) (.cons (.var 3) .nil)))) .nil) (.cons (.call f_law_matrix (.cons (.var 1) (.cons (.var 14) (.cons (.var 15) (.cons (.var 3) .nil)))) .nil) (.cons (.call f_law_matrix (.cons (.var 1) (.cons (.var 16) (.cons (.var 15) (.cons (.var 3) .nil)))) .nil) .nil)))))
  (.seq (.set 6 (.call f_law_one (.cons (.var 1) (.cons (.lst (.cons (.cst (.int 0)) (.cons (.cst (.int 1)) (.cons (.bin .sub (.cst (.int 0)) (.cst (.int 1))) (.cons (.var 3) (.cons (.bin .add (.bin .pow (.cst (.int 10)) (.cst (.int 20))) (.cst (.int 7))) (.cons (.bin .sub (.cst (.int 0)) (.call f_law_take (.cons (.var 1) (.cons (.cst (.int 300)) .nil)) .nil)) .nil))))))) .nil)) .nil))
  (.seq (.set 7 (.blt .repr (.cons (.tup (.cons (.var 4) (.cons (.var 5) .nil))) .nil)))
  (.seq (.for (.nm 8) (.itR (.cons (.cst (.int 4)) .nil))
   (.seq (.for (.nm 17) (.itS (.var 5))
    (.seq (.ite (.cmp .ne (.blt .repr (.cons (.call f_law_told (.cons (.var 8) (.cons (.var 6) (.cons (.var 4) (.cons (.var 17) (.cons (.var 3) .nil))))) .nil) .nil)) (.blt .repr (.cons (.call f_law_due (.cons (.var 8) (.cons (.var 6) (.cons (.var 4) (.cons (.var 17) (.cons (.var 3) .nil))))) .nil) .nil)))
     (.seq (.ret (.cst (.bl false)))
     .nop)
     .nop)
    .nop))
   .nop))
  (.seq (.ite (.cmp .ne (.blt .repr (.cons (.tup (.cons (.var 4) (.cons (.var 5) .nil))) .nil)) (.var 7))
   (.seq (.ret (.cst (.bl false)))
   .nop)
   .nop)
  (.seq (.set 9 (.comp [19] (.cmp .eq (.call f_law_take (.cons (.var 1) (.cons (.cst (.int 3)) .nil)) .nil) (.cst (.int 0))) (.nm 19) (.itR (.cons (.cst (.int 3)) .nil)) .nil))
  (.seq (.set 10 (.lst (.cons (.cst .non) (.cons (.cst (.int 0)) (.cons (.slc (.var 4) .nil (.cst (.int 2))) (.cons (.blt .list (.cons (.var 4) .nil)) (.cons (.tup (.cons (.var 14) (.cons (.var 15) (.cons (.bin .add (.sub (.var 4) (.cst (.int 2))) (.tup (.cons (.bin .mul (.tup (.cons (.var 3) .nil)) (.var 15)) .nil))) .nil)))) (.cons (.cst (.str "m")) (.cons (.tup (.cons (.cst (.int 0)) (.cons (.cst (.int 0)) (.cons (.tup (.cons (.tup .nil) .nil)) .nil)))) .nil)))))))))
  (.seq (.set 11 (.ite (.sub (.var 9) (.cst (.int 0))) (.call f_law_one (.cons (.var 1) (.cons (.var 10) .nil)) .nil) (.var 4)))
  (.seq (.set 12 (.ite (.sub (.var 9) (.cst (.int 1))) (.call f_law_one (.cons (.var 1) (.cons (.var 10) .nil)) .nil) (.sub (.var 5) (.cst (.int 0)))))
  (.seq (.set 13 (.ite (.sub (.var 9) (.cst (.int 2))) (.call f_law_one (.cons (.var 1) (.cons (.lst (.cons (.cst (.int 0)) (.cons (.cst (.int 1)) (.cons (.cst (.int 6)) (.cons (.cst .non) (.cons (.cst (.bl true)) (.cons (.cst (.str "2")) (.cons (.cst (.int 100)) .nil)))))))) .nil)) .nil) (.var 3)))
  (.seq (.for (.nm 8) (.itR (.cons (.cst (.int 4)) .nil))
   (.seq (.set 18 (.ite (.sub (.var 9) (.cst (.int 2))) (.cst (.str "prime")) (.ite (.or (.cons (.sub (.var 9) (.cst (.int 0))) (.cons (.and (.cons (.sub (.var 9) (.cst (.int 1))) (.cons (.cmp .lt (.var 8) (.cst (.int 2))) .nil))) .nil))) (.cst (.str "matrix")) (.cst .non))))
   (.seq (.ite (.and (.cons (.cmp .isnot (.var 18) (.cst .non)) (.cons (.cmp .ne (.call f_law_told (.cons (.var 8) (.cons (.var 6) (.cons (.var 11) (.cons (.var 12) (.cons (.var 13) .nil))))) .nil) (.var 18)) .nil)))
    (.seq (.ret (.cst (.bl false)))
    .nop)
    .nop)
   .nop)))
  (.seq (.set 10 (.call f_law_one (.cons (.var 1) (.cons (.lst (.cons (.cst .non) (.cons (.cst (.bl true)) (.cons (.cst (.str "1")) (.cons (.tup (.cons (.cst (.int 1)) .nil)) (.cons (.lst (.cons (.cst (.int 1)) .nil)) .nil)))))) .nil)) .nil))
  (.seq (.ite (.or (.cons (.cmp .ne (.call f_law_told (.cons (.cst (.int 2)) (.cons (.var 10) (.cons (.var 11) (.cons (.var 12) (.cons (.var 3) .nil))))) .nil) (.cst (.str "number"))) (.cons (.cmp .ne (.call f_law_told (.cons (.cst (.int 2)) (.cons (.var 10) (.cons (.var 11) (.cons (.var 12) (.cons (.cst (.int 4)) .nil))))) .nil) (.cst (.str "prime"))) .nil)))
   (.seq (.ret (.cst (.bl false)))
   .nop)
   .nop)
  (.seq (.ite (.not (.call f_law_numbers_right (.cons (.var 1) (.cons (.var 4) (.cons (.var 5) (.cons (.var 3) .nil)))) .nil))
   (.seq (.ret (.cst (.bl false)))
   .nop)
   .nop)
  .nop))))))))))))))))))
 (.seq (.ret (.cst (.bl true)))
 .nop))), []⟩
end Rp
set_option Elab.async false
set_option linter.all false
set_option maxRecDepth 100000
set_option maxHeartbeats 4000000
/-! need_matrices; small things of RpL, RpP, RpS that are wanted without these. -/
namespace Rp
open PySem PySem.Spec Rm
theorem rw_seq {c p : Int} {x : PV} (h : isRw c p x = true) : ∃ xs, x = .seq true xs ∧ (xs.length : Int) = c ∧ ∀ y ∈ xs, isNm p y = true := by
  cases x <;> first | exact nomatch (show false = true from h) | skip
  rename_i t xs
  cases t <;> first | exact nomatch (show false = true from h) | skip
  simp only [isRw, Bool.and_eq_true, decide_eq_true_eq, List.all_eq_true] at h
  exact ⟨xs, rfl, h.1, h.2⟩
theorem nm_int {p : Int} {y : PV} (h : isNm p y = true) : ∃ i, y = .int i ∧ 0 ≤ i ∧ i < p := by
  cases y <;> first | exact nomatch (show false = true from h) | skip
  rename_i i
  simp only [isNm, decide_eq_true_eq] at h
  exact ⟨i, rfl, h⟩
def OpenOk (G : Sig) (f : Nat) : Prop := ∀ ns : List Int, ∃ cs : List Int, G.call f [.scr (ns.map .int)] [] = .ok (.ref 0) (pen cs 0 0)
def AnewOk (G : Sig) (f : Nat) : Prop := ∀ (cs : List Int) (a z : Int), G.call f [.ref 0] (pen cs a z) = .ok (.ref 0) (pen cs a 0)
def nmB (ff c : Nat) : S := (.seq (.ite (.not (.call ff (.cons (.var 2) (.cons (.var 1) .nil)) .nil))
   (.seq (.rse c (.cons (.cst (.str "no matrix by the prime")) .nil))
   .nop)
   .nop)
  .nop)
theorem nm_loop {G : Sig} {ff c : Nat} (hf : FormOk G ff) (p : Int) (a : Option FV) (st : Sto) : ∀ (ts : List PV) (x : Option FV), (∀ t ∈ ts, isDat t = true) → ∃ fr', forRun (.nm 2) (exS G (nmB ff c)) ts [a, some (.val (.int p)), x] st = if ts.all (isMt p) = true then .nx fr' st else .ex c .non fr' st
  | [], x, _ => ⟨_, by simp [forRun]; rfl⟩
  | t :: ts, x, h => by
    have dt := h t List.mem_cons_self
    have e := hf t p st dt
    have kt := keep_pl (pl_dat dt)
    cases hm : isMt p t with
    | true =>
      obtain ⟨fr', ih⟩ := nm_loop (c := c) hf p a st ts (some (.val t)) fun y hy => h y (List.mem_cons_of_mem _ hy)
      refine ⟨fr', ?_⟩
      rw [hm] at e
      have b : exS G (nmB ff c) [a, some (.val (.int p)), some (.val t)] st = .nx [a, some (.val (.int p)), some (.val t)] st := by
        simp [nmB, evT, e, kt, truF]
      unfold forRun
      have g : asg (.nm 2) t [a, some (.val (.int p)), x] = some [a, some (.val (.int p)), some (.val t)] := by simp [asg]
      simp only [g, b, List.all_cons, hm, Bool.true_and]
      exact ih
    | false =>
      refine ⟨[a, some (.val (.int p)), some (.val t)], ?_⟩
      rw [hm] at e
      have b : exS G (nmB ff c) [a, some (.val (.int p)), some (.val t)] st = .ex c .non [a, some (.val (.int p)), some (.val t)] st := by
        simp [nmB, evT, e, kt, truF, szl]
      unfold forRun
      have g : asg (.nm 2) t [a, some (.val (.int p)), x] = some [a, some (.val (.int p)), some (.val t)] := by simp [asg]
      simp only [g, b, List.all_cons, hm, Bool.false_and]
      rfl
def NMsOk (G : Sig) (f cP cM : Nat) : Prop := ∀ (ts : List PV) (q : PV) (st : Sto), (∀ t ∈ ts, isDat t = true) → pl q = true → G.call f [.seq false ts, q] st = if isPr q = true then (if ts.all (isMt (iv q)) = true then .ok .non st else .exc cM .non st) else .exc cP .non st
theorem nms_run (G : Sig) (fn ff cP cM : Nat) (hn : NeedOk G fn cP) (hf : FormOk G ff) (ts : List PV) (q : PV) (st : Sto) (h : ∀ t ∈ ts, isDat t = true) (hq : pl q = true) : runFn G (P_need_matrices fn ff cM) [.seq false ts, q] st = if isPr q = true then (if ts.all (isMt (iv q)) = true then .ok .non st else .exc cM .non st) else .exc cP .non st := by
  have h1 := hn q st hq
  have kq := keep_pl hq
  show outR (exS G (.seq (.xpr (.call fn (.cons (.var 1) .nil) .nil)) (.seq (.for (.nm 2) (.itS (.var 0)) (nmB ff cM)) .nop)) [some (.val (.seq false ts)), some (.val q), none] st) = _
  cases hp : isPr q with
  | false =>
    rw [hp] at h1
    simp at h1
    simp [h1, kq, outR]
  | true =>
    rw [hp] at h1
    simp at h1
    obtain ⟨fr', hl⟩ := nm_loop (c := cM) hf (iv q) (some (.val (.seq false ts))) st ts none h
    rw [← pr_int hp] at hl
    cases ha : ts.all (isMt (iv q)) <;> rw [ha] at hl <;> simp at hl <;> simp [h1, kq, seqF, hl, outR]
end Rp
set_option Elab.async false
set_option linter.all false
set_option maxRecDepth 100000
set_option maxHeartbeats 4000000
/-! A road through the small language by rules that are applied: what an expression comes to (EV, ED, EL, EI), what holds behind a statement (WS) or an expression (WO). -/
namespace Rq
open PySem PySem.Spec Rm Rp

/-- an expression comes to a value, the store as it was -/
abbrev EV (G : Sig) (e : E) (fr : Frm) (st : Sto) (v : PV) : Prop := evE G e fr st = .ok v st
/-- .. and the list behind a marker -/
def ED (G : Sig) (e : E) (fr : Frm) (st : Sto) (v : PV) : Prop := ∃ x, evE G e fr st = .ok x st ∧ deref fr st x = v
/-- lists of expressions, two behind one another -/
def EL (G : Sig) (l k : E) (fr : Frm) (st : Sto) (xs : List PV) : Prop := ∃ a b, evL G l fr st = .ok a st ∧ evL G k fr st = .ok b st ∧ xs = a ++ b
def EDL (G : Sig) (l : E) (fr : Frm) (st : Sto) (xs : List PV) : Prop := ∃ a, evL G l fr st = .ok a st ∧ a.map (deref fr st) = xs
abbrev EI (G : Sig) (e : E) (fr : Frm) (st : Sto) (xs : List PV) : Prop := evI G e fr st = .ok xs st
def EO (G : Sig) (e : E) (fr : Frm) (st : Sto) (o : Option Int) : Prop := evO G e fr st = .ok o st
def EA (G : Sig) (l : E) (fr : Frm) (st : Sto) (b : Bool) : Prop := evA G l fr st = .ok (.bl b) st
def ER (G : Sig) (l : E) (fr : Frm) (st : Sto) (b : Bool) : Prop := evR G l fr st = .ok (.bl b) st
/-- no marker of a list -/
def flat : PV → Bool
  | .ref _ | .loc _ => false
  | _ => true
theorem deref_flat {p : PV} (h : flat p = true) (fr : Frm) (st : Sto) : deref fr st p = p := by
  cases p <;> first | rfl | cases h
theorem flat_pl {p : PV} (h : pl p = true) : flat p = true := by
  cases p <;> first | rfl | cases h
theorem flat_dat {p : PV} (h : isDat p = true) : flat p = true := flat_pl (pl_dat h)
theorem keep_dat {p : PV} (h : isDat p = true) : keep p = true := keep_pl (pl_dat h)
section
variable {G : Sig} {fr : Frm} {st : Sto}
theorem EV_var {i : Nat} {p : PV} (h : fr[i]? = some (some (.val p))) : EV G (.var i) fr st p := ev_at h
theorem EV_loc {i : Nat} {xs : List PV} (h : fr[i]? = some (some (.own xs))) : EV G (.var i) fr st (.loc i) := by
  show evE G (.var i) fr st = _
  rw [zevE_var, h]
theorem EV_cst {p : PV} : EV G (.cst p) fr st p := zevE_cst ..
theorem EV_glb {k : Nat} {p : PV} (h : G.glb[k]? = some p) : EV G (.glb k) fr st p := by
  show evE G _ fr st = _
  rw [zevE_glb, h]; rfl
theorem EV_neg {a : E} {i : Int} (h : EV G a fr st (.int i)) : EV G (.neg a) fr st (.int (-i)) := by
  show evE G _ fr st = _
  rw [zevE_neg, h]; rfl
theorem ED_own {i : Nat} {xs : List PV} (h : fr[i]? = some (some (.own xs))) : ED G (.var i) fr st (.seq false xs) :=
  ⟨_, EV_loc h, by simp only [deref, h]⟩
theorem ED_ref {i n : Nat} {xs : List PV} (h : fr[i]? = some (some (.val (.ref n)))) (h2 : st[n]? = some xs) : ED G (.var i) fr st (.seq false xs) :=
  ⟨_, EV_var h, by simp only [deref, h2]⟩
theorem ED_ev {e : E} {p : PV} (h : EV G e fr st p) (hf : flat p = true) : ED G e fr st p := ⟨p, h, deref_flat hf fr st⟩
theorem EV_not {a : E} {x : PV} {b : Bool} (h : ED G a fr st x) (h2 : truF x = some b) : EV G (.not a) fr st (.bl (!b)) := by
  obtain ⟨p, e, rfl⟩ := h
  show evE G _ fr st = _
  rw [zevE_not, e, Out.bind_ok, h2]; rfl
theorem EV_bin {op : Op} {a b : E} {x y z : PV} (h1 : ED G a fr st x) (h2 : ED G b fr st y) (h : binF op x y = some z) : EV G (.bin op a b) fr st z := by
  obtain ⟨p, e1, rfl⟩ := h1
  obtain ⟨q, e2, rfl⟩ := h2
  exact ev_bin e1 e2 h
theorem EV_cmp {op : Cop} {a b : E} {x y : PV} {k : Bool} (h1 : ED G a fr st x) (h2 : ED G b fr st y) (h : cmpF op x y = some k) : EV G (.cmp op a b) fr st (.bl k) := by
  obtain ⟨p, e1, rfl⟩ := h1
  obtain ⟨q, e2, rfl⟩ := h2
  show evE G _ fr st = _
  rw [zevE_cmp, e1, Out.bind_ok, e2, Out.bind_ok, h]; rfl
theorem EV_chn {o1 o2 : Cop} {a b c : E} {x y z : PV} {k l : Bool} (h1 : ED G a fr st x) (h2 : ED G b fr st y) (h : cmpF o1 x y = some k) (h3 : ED G c fr st z) (h4 : cmpF o2 y z = some l) : EV G (.chn o1 o2 a b c) fr st (.bl (k && l)) := by
  obtain ⟨p, e1, rfl⟩ := h1
  obtain ⟨q, e2, rfl⟩ := h2
  obtain ⟨r, e3, rfl⟩ := h3
  show evE G _ fr st = _
  rw [zevE_chn, e1, Out.bind_ok, e2, Out.bind_ok, h, Out.of_some, Out.bind_ok]
  cases k
  · rfl
  · rw [if_pos rfl, e3, Out.bind_ok, h4]; rfl
theorem EA_nil : EA G .nil fr st true := zevA_nil ..
theorem EA_cons {a l : E} {b c : Bool} (h : EV G a fr st (.bl b)) (h2 : b = true → EA G l fr st c) : EA G (.cons a l) fr st (b && c) := by
  show evA G _ fr st = _
  rw [zevA_cons, h, Out.bind_ok]
  cases b
  · rfl
  · exact h2 rfl
theorem EA_one {a : E} {b : Bool} (h : EV G a fr st (.bl b)) : EA G (.cons a .nil) fr st b := by
  have := EA_cons h fun _ => EA_nil
  rwa [Bool.and_true] at this
theorem EA_F {a l : E} {b : Bool} (h : EV G a fr st (.bl b)) (hb : b = false) : EA G (.cons a l) fr st false := by
  subst hb
  show evA G _ fr st = _
  rw [zevA_cons, h, Out.bind_ok]; rfl
theorem ER_nil : ER G .nil fr st false := zevR_nil ..
theorem ER_cons {a l : E} {b c : Bool} (h : EV G a fr st (.bl b)) (h2 : b = false → ER G l fr st c) : ER G (.cons a l) fr st (b || c) := by
  show evR G _ fr st = _
  rw [zevR_cons, h, Out.bind_ok]
  cases b
  · exact h2 rfl
  · rfl
theorem ER_one {a : E} {b : Bool} (h : EV G a fr st (.bl b)) : ER G (.cons a .nil) fr st b := by
  have := ER_cons h fun _ => ER_nil
  rwa [Bool.or_false] at this
theorem ER_T {a l : E} {b : Bool} (h : EV G a fr st (.bl b)) (hb : b = true) : ER G (.cons a l) fr st true := by
  subst hb
  show evR G _ fr st = _
  rw [zevR_cons, h, Out.bind_ok]; rfl
theorem EV_and {l : E} {b : Bool} (h : EA G l fr st b) : EV G (.and l) fr st (.bl b) := by
  show evE G _ fr st = _
  rw [zevE_and]; exact h
theorem EV_or {l : E} {b : Bool} (h : ER G l fr st b) : EV G (.or l) fr st (.bl b) := by
  show evE G _ fr st = _
  rw [zevE_or]; exact h
theorem EV_ite {c a b : E} {x u w : PV} {k : Bool} (h : ED G c fr st x) (hk : truF x = some k) (h1 : k = true → EV G a fr st u) (h2 : k = false → EV G b fr st w) : EV G (.ite c a b) fr st (if k = true then u else w) := by
  obtain ⟨p, e1, rfl⟩ := h
  show evE G _ fr st = _
  rw [zevE_ite, e1, Out.bind_ok, hk, Out.of_some, Out.bind_ok]
  cases k
  · exact h2 rfl
  · exact h1 rfl
theorem EV_iteT {c a b : E} {x u : PV} (h : ED G c fr st x) (hk : truF x = some true) (h1 : EV G a fr st u) : EV G (.ite c a b) fr st u := by
  obtain ⟨p, e1, rfl⟩ := h
  show evE G _ fr st = _
  rw [zevE_ite, e1, Out.bind_ok, hk]; exact h1
theorem EV_iteF {c a b : E} {x u : PV} (h : ED G c fr st x) (hk : truF x = some false) (h1 : EV G b fr st u) : EV G (.ite c a b) fr st u := by
  obtain ⟨p, e1, rfl⟩ := h
  show evE G _ fr st = _
  rw [zevE_ite, e1, Out.bind_ok, hk]; exact h1
/-! lists -/
theorem EL_nn : EL G .nil .nil fr st [] := ⟨[], [], zevL_nil .., zevL_nil .., rfl⟩
theorem EL_cons {a l k : E} {x : PV} {xs : List PV} (h : EV G a fr st x) (h2 : EL G l k fr st xs) : EL G (.cons a l) k fr st (x :: xs) := by
  obtain ⟨a, b, e1, e2, rfl⟩ := h2
  exact ⟨x :: a, b, by rw [zevL_cons, h, Out.bind_ok, e1]; rfl, e2, rfl⟩
theorem EL_nc {a k : E} {x : PV} {xs : List PV} (h : EV G a fr st x) (h2 : EL G .nil k fr st xs) : EL G .nil (.cons a k) fr st (x :: xs) := by
  obtain ⟨c, b, e1, e2, rfl⟩ := h2
  have : c = [] := by rw [zevL_nil] at e1; cases e1; rfl
  subst this
  exact ⟨[], x :: b, e1, by rw [zevL_cons, h, Out.bind_ok, e2]; rfl, rfl⟩
theorem EDL_nil : EDL G .nil fr st [] := ⟨[], zevL_nil .., rfl⟩
theorem EDL_cons {a l : E} {x : PV} {xs : List PV} (h : ED G a fr st x) (h2 : EDL G l fr st xs) : EDL G (.cons a l) fr st (x :: xs) := by
  obtain ⟨p, e, rfl⟩ := h
  obtain ⟨q, e2, rfl⟩ := h2
  exact ⟨p :: q, by rw [zevL_cons, e, Out.bind_ok, e2]; rfl, rfl⟩
theorem EL_l {l : E} {xs : List PV} (h : EL G l .nil fr st xs) : evL G l fr st = .ok xs st := by
  obtain ⟨a, b, e1, e2, rfl⟩ := h
  rw [zevL_nil] at e2
  cases e2
  rw [List.append_nil]
  exact e1
theorem EV_tup {l : E} {xs : List PV} (h : EL G l .nil fr st xs) (hk : keepAll xs = true) (hf : fits xs.length = true) : EV G (.tup l) fr st (.seq true xs) := by
  show evE G _ fr st = _
  rw [zevE_tup, EL_l h, Out.bind_ok, if_pos ⟨hk, hf⟩]
theorem EV_lst {l : E} {xs : List PV} (h : EL G l .nil fr st xs) (hk : keepAll xs = true) (hf : fits xs.length = true) : EV G (.lst l) fr st (.seq false xs) := by
  show evE G _ fr st = _
  rw [zevE_lst, EL_l h, Out.bind_ok, if_pos ⟨hk, hf⟩]
theorem EV_sub {a i : E} {x y z : PV} (h1 : ED G a fr st x) (h2 : EV G i fr st y) (h : idxF x y = some z) : EV G (.sub a i) fr st z := by
  obtain ⟨p, e, rfl⟩ := h1
  show evE G _ fr st = _
  rw [zevE_sub, e, Out.bind_ok, h2, Out.bind_ok, h]; rfl
theorem EO_nil : EO G .nil fr st none := rfl
theorem EO_ev {e : E} {i : Int} (h : EV G e fr st (.int i)) : EO G e fr st (some i) := by
  show optO e (evE G e fr st) st = _
  have h' : evE G e fr st = .ok (.int i) st := h
  rw [h']
  cases e <;> first | rfl | exact nomatch (show (Out.bad : Out PV) = Out.ok (PV.int i) st from h)
theorem EO_cst {i : Int} : EO G (.cst (.int i)) fr st (some i) := EO_ev EV_cst
theorem EV_slc {a lo hi : E} {l h : Option Int} {x z : PV} (h1 : ED G a fr st x) (h2 : EO G lo fr st l) (h3 : EO G hi fr st h) (h4 : cutF l h x = some z) : EV G (.slc a lo hi) fr st z := by
  obtain ⟨p, e, rfl⟩ := h1
  have h2 : evO G lo fr st = .ok l st := h2
  have h3 : evO G hi fr st = .ok h st := h3
  show evE G _ fr st = _
  rw [zevE_slc, e, Out.bind_ok, h2, Out.bind_ok, h3, Out.bind_ok, h4]; rfl
theorem EV_rev {a : E} {x z : PV} (h1 : ED G a fr st x) (h : revF x = some z) : EV G (.rev a) fr st z := by
  obtain ⟨p, e, rfl⟩ := h1
  show evE G _ fr st = _
  rw [zevE_rev, e, Out.bind_ok, h]; rfl
theorem EV_call {f : Nat} {l k : E} {xs : List PV} {z : PV} (h : EL G l k fr st xs) (hk : keepAll xs = true) (hc : G.call f xs st = .ok z st) : EV G (.call f l k) fr st z := by
  obtain ⟨a, b, e1, e2, rfl⟩ := h
  show evE G _ fr st = _
  rw [zevE_call, e1, Out.bind_ok, e2, Out.bind_ok, if_pos hk, hc]
theorem EV_blt {b : Blt} {l : E} {xs : List PV} {z : PV} (h : EDL G l fr st xs) (hb : bltF b xs = some z) : EV G (.blt b l) fr st z := by
  obtain ⟨a, e, rfl⟩ := h
  show evE G _ fr st = _
  rw [zevE_blt, e, Out.bind_ok, hb]; rfl
theorem EV_isi {a : E} {ts : List Ty} {x : PV} {k : Bool} (h : ED G a fr st x) (hk : isiAny G x ts = some k) : EV G (.isi a ts) fr st (.bl k) := by
  obtain ⟨p, e, rfl⟩ := h
  show evE G _ fr st = _
  rw [zevE_isi, e, Out.bind_ok, hk]; rfl
theorem EV_idx {a x : E} {ys : List PV} {y z : PV} (h : ED G a fr st (.seq false ys)) (h2 : ED G x fr st y) (hz : idxM y (.seq false ys) = some z) : EV G (.idx a x) fr st z := by
  obtain ⟨p, e, hp⟩ := h
  obtain ⟨q, e2, rfl⟩ := h2
  show evE G _ fr st = _
  rw [zevE_idx, e, Out.bind_ok, hp]
  show (evE G x fr st).bind _ = _
  rw [e2, Out.bind_ok]
  simp only [hp, hz]; rfl
theorem EV_cnt {a x : E} {ys : List PV} {y z : PV} (h : ED G a fr st (.seq false ys)) (h2 : ED G x fr st y) (hz : cntM y (.seq false ys) = some z) : EV G (.cnt a x) fr st z := by
  obtain ⟨p, e, hp⟩ := h
  obtain ⟨q, e2, rfl⟩ := h2
  show evE G _ fr st = _
  rw [zevE_cnt, e, Out.bind_ok, hp]
  show (evE G x fr st).bind _ = _
  rw [e2, Out.bind_ok]
  simp only [hp, hz]; rfl
theorem EV_lrg1 {t : Bool} {a : E} {x : PV} {ys : List PV} (h : EV G a fr st x) (hr : rngF [x] = some ys) : EV G (.lrg t a .nil) fr st (.seq t ys) := by
  show evE G _ fr st = _
  rw [zevE_lrg, h, Out.bind_ok, sO_nil, Out.bind_ok]
  show (Out.of (rngF [x]) st).bind _ = _
  rw [hr]; rfl
theorem EV_lrg2 {t : Bool} {a b : E} {x : PV} {i : Int} {ys : List PV} (h : EV G a fr st x) (h2 : EO G b fr st (some i)) (hr : rngF [x, .int i] = some ys) : EV G (.lrg t a b) fr st (.seq t ys) := by
  have h2 : evO G b fr st = .ok (some i) st := h2
  show evE G _ fr st = _
  rw [zevE_lrg, h, Out.bind_ok, h2, Out.bind_ok]
  show (Out.of (rngF [x, .int i]) st).bind _ = _
  rw [hr]; rfl
/-! what is walked -/
theorem EI_S {a : E} {p : PV} {l : List PV} (h : EV G a fr st p) (hs : seqF p = some l) : EI G (.itS a) fr st l := by
  show evI G _ fr st = _
  rw [zevI_itS, h, Out.bind_ok, hs]; rfl
theorem EI_R {l : E} {xs ys : List PV} (h : EL G l .nil fr st xs) (hr : rngF xs = some ys) : EI G (.itR l) fr st ys := by
  show evI G _ fr st = _
  rw [zevI_itR, EL_l h, Out.bind_ok, hr]; rfl
/-- the numbers from one to another -/
def irg (a b : Int) : List Int := (List.range (b - a).toNat).map fun k => a + (k : Nat)
theorem mem_irg {a b x : Int} : x ∈ irg a b ↔ a ≤ x ∧ x < b := by
  unfold irg
  simp only [List.mem_map, List.mem_range]
  constructor
  · rintro ⟨k, h, rfl⟩
    omega
  · intro h
    exact ⟨(x - a).toNat, by omega, by omega⟩
theorem irg_len (a b : Int) : (irg a b).length = (b - a).toNat := by simp [irg]
theorem irg_get {a b : Int} {i : Nat} (h : i < (irg a b).length) : (irg a b)[i] = a + (i : Nat) := by simp [irg]
theorem rng_irg (a b : Int) : rangeF a (b - a).toNat = (irg a b).map .int := by
  unfold rangeF irg
  rw [List.map_map]
  rfl
theorem EI_R1 {a : E} {n : Int} (h : EV G a fr st (.int n)) (h0 : -(2 ^ 62) ≤ n) (h1 : n ≤ 16777216) : EI G (.itR (.cons a .nil)) fr st ((irg 0 n).map .int) :=
  EI_R (EL_cons h EL_nn) (by rw [rng1 n ⟨h0, by omega⟩ (by rw [szl]; omega), ← rng_irg, Int.sub_zero])
theorem EI_R2 {a b : E} {m n : Int} (h : EV G a fr st (.int m)) (h' : EV G b fr st (.int n)) (h0 : -(2 ^ 61) ≤ m) (h1 : m < 2 ^ 61) (h2 : -(2 ^ 61) ≤ n) (h3 : n < 2 ^ 61) (h4 : n - m ≤ 16777216) : EI G (.itR (.cons a (.cons b .nil))) fr st ((irg m n).map .int) :=
  EI_R (EL_cons h (EL_cons h' EL_nn)) (by rw [rng2 m n ⟨by omega, by omega⟩ ⟨by omega, by omega⟩ (by rw [szl]; omega), rng_irg])
theorem enumF_map {α : Type} (e : α → PV) : ∀ (xs : List α) (k : Nat), enumF k (xs.map e) = (xs.zipIdx k).map fun q => .seq true [.int (q.2 : Nat), e q.1]
  | [], _ => rfl
  | x :: xs, k => by
    rw [List.map_cons, enumF, enumF_map e xs (k + 1), List.zipIdx_cons, List.map_cons]
theorem EI_E {α : Type} {e : α → PV} {xs : List α} {a : E} {p : PV} (h : EV G a fr st p) (hs : seqF p = some (xs.map e)) : EI G (.itE a) fr st (xs.zipIdx.map fun q => .seq true [.int (q.2 : Nat), e q.1]) := by
  show evI G _ fr st = _
  rw [zevI_itE, h, Out.bind_ok, hs, Option.map_some, enumF_map]; rfl
theorem zipF_map {α β : Type} (e : α → PV) (e2 : β → PV) : ∀ (xs : List α) (ys : List β), zipF (xs.map e) (ys.map e2) = (xs.zip ys).map fun q => .seq true [e q.1, e2 q.2]
  | [], ys => by simp [zipF]
  | x :: xs, [] => by simp [zipF]
  | x :: xs, y :: ys => by simp [zipF, zipF_map e e2 xs ys]
theorem EI_Z {α β : Type} {e : α → PV} {e2 : β → PV} {xs : List α} {ys : List β} {a b : E} {p q : PV} (h : EV G a fr st p) (h2 : EV G b fr st q) (hs : seqF p = some (xs.map e)) (hs2 : seqF q = some (ys.map e2)) : EI G (.itZ false a b) fr st ((xs.zip ys).map fun q => .seq true [e q.1, e2 q.2]) := by
  show evI G _ fr st = _
  rw [zevI_itZ, h, Out.bind_ok, h2, Out.bind_ok, hs, hs2, Out.of_some, Out.bind_ok, Out.of_some, Out.bind_ok, ← zipF_map]; rfl
theorem EI_ZS {α β : Type} {e : α → PV} {e2 : β → PV} {xs : List α} {ys : List β} {a b : E} {p q : PV} (h : EV G a fr st p) (h2 : EV G b fr st q) (hs : seqF p = some (xs.map e)) (hs2 : seqF q = some (ys.map e2)) (hl : xs.length = ys.length) : EI G (.itZ true a b) fr st ((xs.zip ys).map fun q => .seq true [e q.1, e2 q.2]) := by
  show evI G _ fr st = _
  rw [zevI_itZ, h, Out.bind_ok, h2, Out.bind_ok, hs, hs2, Out.of_some, Out.bind_ok, Out.of_some, Out.bind_ok, ← zipF_map]
  unfold zipM
  rw [if_pos rfl, if_pos (by rw [List.length_map, List.length_map]; exact hl)]; rfl
/-! comprehensions -/
theorem compRun_map {α : Type} {e g : α → PV} {els : Frm → Sto → Out PV} {tg : T} {fr1 : α → Frm} : ∀ (xs : List α) (acc : List PV),
    (∀ x ∈ xs, asg tg (e x) fr = some (fr1 x)) → (∀ x ∈ xs, els (fr1 x) st = .ok (g x) st) → (∀ x ∈ xs, keep (g x) = true) →
    compRun els (fun _ st => .ok true st) tg fr (xs.map e) acc st = .ok (acc ++ xs.map g) st
  | [], acc, _, _, _ => by simp [compRun]
  | x :: xs, acc, h1, h2, h3 => by
    rw [List.map_cons]
    unfold compRun
    simp only [h1 x List.mem_cons_self, h2 x List.mem_cons_self, h3 x List.mem_cons_self, if_true]
    rw [compRun_map xs _ (fun y hy => h1 y (List.mem_cons_of_mem _ hy)) (fun y hy => h2 y (List.mem_cons_of_mem _ hy)) (fun y hy => h3 y (List.mem_cons_of_mem _ hy))]
    simp
theorem compRun_fil {α : Type} {e g : α → PV} {c : α → Bool} {els : Frm → Sto → Out PV} {cnd : Frm → Sto → Out Bool} {tg : T} {fr1 : α → Frm} : ∀ (xs : List α) (acc : List PV),
    (∀ x ∈ xs, asg tg (e x) fr = some (fr1 x)) → (∀ x ∈ xs, cnd (fr1 x) st = .ok (c x) st) → (∀ x ∈ xs, c x = true → els (fr1 x) st = .ok (g x) st) → (∀ x ∈ xs, c x = true → keep (g x) = true) →
    compRun els cnd tg fr (xs.map e) acc st = .ok (acc ++ (xs.filter c).map g) st
  | [], acc, _, _, _, _ => by simp [compRun]
  | x :: xs, acc, h1, h4, h2, h3 => by
    have ih := fun acc => compRun_fil (g := g) xs acc (fun y hy => h1 y (List.mem_cons_of_mem _ hy)) (fun y hy => h4 y (List.mem_cons_of_mem _ hy)) (fun y hy => h2 y (List.mem_cons_of_mem _ hy)) (fun y hy => h3 y (List.mem_cons_of_mem _ hy))
    rw [List.map_cons]
    unfold compRun
    simp only [h1 x List.mem_cons_self, h4 x List.mem_cons_self]
    cases hc : c x with
    | true =>
      simp only [h2 x List.mem_cons_self hc, h3 x List.mem_cons_self hc, if_true]
      rw [ih, List.filter_cons_of_pos hc]
      simp
    | false =>
      simp only
      rw [ih, List.filter_cons_of_neg (by simp [hc])]
theorem EV_comp {α : Type} {e g : α → PV} {xs : List α} {own : List Nat} {elt : E} {tg : T} {it : E} {fr1 : α → Frm} (h : EI G it fr st (xs.map e))
    (h1 : ∀ x ∈ xs, asg tg (e x) (wipeF fr own) = some (fr1 x)) (h2 : ∀ x ∈ xs, EV G elt (fr1 x) st (g x)) (h3 : ∀ x ∈ xs, keep (g x) = true) : EV G (.comp own elt tg it .nil) fr st (.seq false (xs.map g)) := by
  show evE G _ fr st = _
  rw [zevE_comp, h, Out.bind_ok, show evC G .nil = fun _ st => .ok true st from rfl, compRun_map xs [] h1 h2 h3]; rfl
theorem tstC_ed {c : E} {x : PV} {b : Bool} (hn : c ≠ .nil) (h : ED G c fr st x) (hb : truF x = some b) : evC G c fr st = .ok b st := by
  obtain ⟨p, e, rfl⟩ := h
  unfold evC tstC
  split
  · exact absurd rfl hn
  · rw [e, Out.bind_ok, hb]; rfl
theorem EV_compF {α : Type} {e g x' : α → PV} {c : α → Bool} {xs : List α} {own : List Nat} {elt : E} {tg : T} {it cd : E} {fr1 : α → Frm} (h : EI G it fr st (xs.map e))
    (h1 : ∀ x ∈ xs, asg tg (e x) (wipeF fr own) = some (fr1 x)) (h4 : ∀ x ∈ xs, ED G cd (fr1 x) st (x' x)) (h5 : ∀ x ∈ xs, truF (x' x) = some (c x)) (h2 : ∀ x ∈ xs, c x = true → EV G elt (fr1 x) st (g x)) (h3 : ∀ x ∈ xs, c x = true → keep (g x) = true) (hn : cd ≠ .nil) : EV G (.comp own elt tg it cd) fr st (.seq false ((xs.filter c).map g)) := by
  show evE G _ fr st = _
  rw [zevE_comp, h, Out.bind_ok, compRun_fil xs [] h1 (fun x hx => tstC_ed hn (h4 x hx) (h5 x hx)) h2 h3]; rfl
theorem EV_compR {g : PV → PV} {xs : List PV} {own : List Nat} {elt : E} {tg : T} {it : E} {fr1 : PV → Frm} (h : EI G it fr st xs)
    (h1 : ∀ x ∈ xs, asg tg x (wipeF fr own) = some (fr1 x)) (h2 : ∀ x ∈ xs, EV G elt (fr1 x) st (g x)) (h3 : ∀ x ∈ xs, keep (g x) = true) : EV G (.comp own elt tg it .nil) fr st (.seq false (xs.map g)) :=
  EV_comp (e := fun x => x) (by rw [show (fun x : PV => x) = id from rfl, List.map_id]; exact h) h1 h2 h3
theorem EV_compFR {g x' : PV → PV} {c : PV → Bool} {xs : List PV} {own : List Nat} {elt : E} {tg : T} {it cd : E} {fr1 : PV → Frm} (h : EI G it fr st xs)
    (h1 : ∀ x ∈ xs, asg tg x (wipeF fr own) = some (fr1 x)) (h4 : ∀ x ∈ xs, ED G cd (fr1 x) st (x' x)) (h5 : ∀ x ∈ xs, truF (x' x) = some (c x)) (h2 : ∀ x ∈ xs, c x = true → EV G elt (fr1 x) st (g x)) (h3 : ∀ x ∈ xs, c x = true → keep (g x) = true) (hn : cd ≠ .nil) : EV G (.comp own elt tg it cd) fr st (.seq false ((xs.filter c).map g)) :=
  EV_compF (e := fun x => x) (by rw [show (fun x : PV => x) = id from rfl, List.map_id]; exact h) h1 h4 h5 h2 h3 hn
/-- a comprehension over a list that is written out -/
inductive CU (G : Sig) (elt : E) (tg : T) (cd : E) (fr : Frm) (st : Sto) : List PV → List PV → Prop where
  | nil : CU G elt tg cd fr st [] []
  | yes {x v : PV} {xs ys : List PV} {fr1 : Frm} (h : asg tg x fr = some fr1) (hc : evC G cd fr1 st = .ok true st) (he : EV G elt fr1 st v) (hk : keep v = true) (t : CU G elt tg cd fr st xs ys) : CU G elt tg cd fr st (x :: xs) (v :: ys)
  | no {x : PV} {xs ys : List PV} {fr1 : Frm} (h : asg tg x fr = some fr1) (hc : evC G cd fr1 st = .ok false st) (t : CU G elt tg cd fr st xs ys) : CU G elt tg cd fr st (x :: xs) ys
theorem CU_run {elt : E} {tg : T} {cd : E} {xs ys : List PV} (h : CU G elt tg cd fr st xs ys) : ∀ acc, compRun (evE G elt) (evC G cd) tg fr xs acc st = .ok (acc ++ ys) st := by
  induction h with
  | nil => intro acc; simp [compRun]
  | yes h hc he hk t ih =>
    intro acc
    unfold compRun
    simp only [h, hc]
    rw [he]
    simp only [hk, if_true]
    rw [ih]; simp
  | no h hc t ih =>
    intro acc
    unfold compRun
    simp only [h, hc]
    rw [ih]
theorem CU_nil {elt : E} {tg : T} {cd : E} : CU G elt tg cd fr st [] [] := .nil
theorem CU_all {elt : E} {tg : T} {x v : PV} {xs ys : List PV} {fr1 : Frm} (h : asg tg x fr = some fr1) (he : EV G elt fr1 st v) (hk : keep v = true) (t : CU G elt tg .nil fr st xs ys) : CU G elt tg .nil fr st (x :: xs) (v :: ys) := .yes h rfl he hk t
theorem CU_yes {elt : E} {tg : T} {cd : E} {x y v : PV} {xs ys : List PV} {fr1 : Frm} (h : asg tg x fr = some fr1) (hc : ED G cd fr1 st y) (hb : truF y = some true) (hn : cd ≠ .nil) (he : EV G elt fr1 st v) (hk : keep v = true) (t : CU G elt tg cd fr st xs ys) : CU G elt tg cd fr st (x :: xs) (v :: ys) := .yes h (tstC_ed hn hc hb) he hk t
theorem CU_no {elt : E} {tg : T} {cd : E} {x y : PV} {xs ys : List PV} {fr1 : Frm} (h : asg tg x fr = some fr1) (hc : ED G cd fr1 st y) (hb : truF y = some false) (hn : cd ≠ .nil) (t : CU G elt tg cd fr st xs ys) : CU G elt tg cd fr st (x :: xs) ys := .no h (tstC_ed hn hc hb) t
theorem EV_compU {own : List Nat} {elt : E} {tg : T} {it cd : E} {xs ys : List PV} {fr1 : Frm} (h : EI G it fr st xs) (hf : wipeF fr own = fr1) (c : CU G elt tg cd fr1 st xs ys) : EV G (.comp own elt tg it cd) fr st (.seq false ys) := by
  subst hf
  show evE G _ fr st = _
  rw [zevE_comp, h, Out.bind_ok, CU_run c]; rfl
theorem EI_ER {a : E} {p : PV} {l l' : List PV} (h : EV G a fr st p) (hs : seqF p = some l) (hl : enumF 0 l = l') : EI G (.itE a) fr st l' := by
  subst hl
  show evI G _ fr st = _
  rw [zevI_itE, h, Out.bind_ok, hs]; rfl
theorem EI_Rl1 : EI G (.itR (.cons (.cst (.int 1)) .nil)) fr st [.int 0] := by
  show evI G _ fr st = _
  rw [zevI_itR, zevL_cons, zevE_cst, Out.bind_ok, zevL_nil, Out.bind_ok, Out.bind_ok, rng1 1 ⟨by decide, by decide⟩ (by decide)]
  rfl
theorem EI_Rl2 : EI G (.itR (.cons (.cst (.int 2)) .nil)) fr st [.int 0, .int 1] := by
  show evI G _ fr st = _
  rw [zevI_itR, zevL_cons, zevE_cst, Out.bind_ok, zevL_nil, Out.bind_ok, Out.bind_ok, rng1 2 ⟨by decide, by decide⟩ (by decide)]
  rfl
theorem EI_Rl3 : EI G (.itR (.cons (.cst (.int 3)) .nil)) fr st [.int 0, .int 1, .int 2] := by
  show evI G _ fr st = _
  rw [zevI_itR, zevL_cons, zevE_cst, Out.bind_ok, zevL_nil, Out.bind_ok, Out.bind_ok, rng1 3 ⟨by decide, by decide⟩ (by decide)]
  rfl
theorem EI_Rl4 : EI G (.itR (.cons (.cst (.int 4)) .nil)) fr st [.int 0, .int 1, .int 2, .int 3] := by
  show evI G _ fr st = _
  rw [zevI_itR, zevL_cons, zevE_cst, Out.bind_ok, zevL_nil, Out.bind_ok, Out.bind_ok, rng1 4 ⟨by decide, by decide⟩ (by decide)]
  rfl
theorem EI_Rl5 : EI G (.itR (.cons (.cst (.int 5)) .nil)) fr st [.int 0, .int 1, .int 2, .int 3, .int 4] := by
  show evI G _ fr st = _
  rw [zevI_itR, zevL_cons, zevE_cst, Out.bind_ok, zevL_nil, Out.bind_ok, Out.bind_ok, rng1 5 ⟨by decide, by decide⟩ (by decide)]
  rfl
theorem EI_Rl6 : EI G (.itR (.cons (.cst (.int 6)) .nil)) fr st [.int 0, .int 1, .int 2, .int 3, .int 4, .int 5] := by
  show evI G _ fr st = _
  rw [zevI_itR, zevL_cons, zevE_cst, Out.bind_ok, zevL_nil, Out.bind_ok, Out.bind_ok, rng1 6 ⟨by decide, by decide⟩ (by decide)]
  rfl
/-! two clauses -/
theorem comp2Run_map {α β : Type} {e : α → PV} {ys : α → List β} {e2 : α → β → PV} {g : α → β → PV} {ev2 : Frm → Sto → Out (List PV)} {els : Frm → Sto → Out PV} {tg tg2 : T} {own2 : List Nat} {fr1 : α → Frm} {fr2 : α → β → Frm} : ∀ (xs : List α) (acc : List PV),
    (∀ x ∈ xs, asg tg (e x) fr = some (fr1 x)) → (∀ x ∈ xs, ev2 (fr1 x) st = .ok ((ys x).map (e2 x)) st) →
    (∀ x ∈ xs, ∀ y ∈ ys x, asg tg2 (e2 x y) (wipeF (fr1 x) own2) = some (fr2 x y)) → (∀ x ∈ xs, ∀ y ∈ ys x, els (fr2 x y) st = .ok (g x y) st) → (∀ x ∈ xs, ∀ y ∈ ys x, keep (g x y) = true) →
    acc.length + (xs.map fun x => (ys x).length).sum ≤ 16777216 →
    comp2Run ev2 els tg tg2 own2 fr (xs.map e) acc st = .ok (acc ++ xs.flatMap fun x => (ys x).map (g x)) st
  | [], acc, _, _, _, _, _, _ => by simp [comp2Run]
  | x :: xs, acc, h1, h2, h3, h4, h5, h6 => by
    have m : x ∈ x :: xs := List.mem_cons_self
    rw [List.map_cons, List.sum_cons] at h6
    have hf : fits (acc.length + ((ys x).map (e2 x)).length) = true := by
      rw [fits_eq, szl, List.length_map]
      omega
    rw [List.map_cons]
    unfold comp2Run
    simp only [h1 x m, h2 x m, hf, if_true]
    rw [compRun_map (ys x) acc (h3 x m) (h4 x m) (h5 x m)]
    simp only
    rw [comp2Run_map xs _ (fun y hy => h1 y (List.mem_cons_of_mem _ hy)) (fun y hy => h2 y (List.mem_cons_of_mem _ hy)) (fun y hy => h3 y (List.mem_cons_of_mem _ hy)) (fun y hy => h4 y (List.mem_cons_of_mem _ hy)) (fun y hy => h5 y (List.mem_cons_of_mem _ hy)) (by rw [List.length_append, List.length_map]; omega)]
    simp
theorem EV_comp2 {α β : Type} {e : α → PV} {ys : α → List β} {e2 : α → β → PV} {g : α → β → PV} {xs : List α} {own own2 : List Nat} {elt : E} {tg tg2 : T} {it it2 : E} {fr1 : α → Frm} {fr2 : α → β → Frm} (h : EI G it fr st (xs.map e))
    (h1 : ∀ x ∈ xs, asg tg (e x) (wipeF fr own) = some (fr1 x)) (h2 : ∀ x ∈ xs, EI G it2 (fr1 x) st ((ys x).map (e2 x)))
    (h3 : ∀ x ∈ xs, ∀ y ∈ ys x, asg tg2 (e2 x y) (wipeF (fr1 x) own2) = some (fr2 x y)) (h4 : ∀ x ∈ xs, ∀ y ∈ ys x, EV G elt (fr2 x y) st (g x y)) (h5 : ∀ x ∈ xs, ∀ y ∈ ys x, keep (g x y) = true)
    (h6 : (xs.map fun x => (ys x).length).sum ≤ 16777216) : EV G (.comp2 own elt tg it own2 tg2 it2) fr st (.seq false (xs.flatMap fun x => (ys x).map (g x))) := by
  show evE G _ fr st = _
  rw [zevE_comp2, h, Out.bind_ok, comp2Run_map xs [] h1 h2 h3 h4 h5 (by simpa using h6)]; rfl
end
end Rq
set_option Elab.async false
set_option linter.all false
set_option maxRecDepth 100000
set_option maxHeartbeats 4000000
/-! What holds behind an expression (WO) and behind a statement (WS), by rules that are applied. -/
namespace Rq
open PySem PySem.Spec Rm Rp
def WO {α : Type} (o : Out α) (A : α → Sto → Prop) (X : Nat → PV → Sto → Prop) : Prop := match o with
  | .ok a st => A a st
  | .exc c p st => X c p st
  | .bad => False
def WS (r : Res) (N : Frm → Sto → Prop) (R : PV → Sto → Prop) (K B : Frm → Sto → Prop) (X : Nat → PV → Frm → Sto → Prop) : Prop := match r with
  | .nx fr st => N fr st
  | .rt p st => R p st
  | .ct fr st => K fr st
  | .bk fr st => B fr st
  | .ex c p fr st => X c p fr st
  | .bad => False
abbrev noF : Frm → Sto → Prop := fun _ _ => False
abbrev noX : Nat → PV → Sto → Prop := fun _ _ _ => False
abbrev noXF : Nat → PV → Frm → Sto → Prop := fun _ _ _ _ => False
/-- shapes of what is still to be shown -/
def KP (p : PV) (P : Prop) : Prop := keep p = true ∧ P
def KA (xs : List PV) (P : Prop) : Prop := keepAll xs = true ∧ fits xs.length = true ∧ P
def KL (xs : List PV) (P : List PV → Prop) : Prop := keepAll xs = true ∧ P xs
def AS (t : T) (p : PV) (fr : Frm) (N : Frm → Prop) : Prop := ∃ fr1, asg t p fr = some fr1 ∧ N fr1
def OF {α : Type} (o : Option α) (P : α → Prop) : Prop := ∃ z, o = some z ∧ P z
def SZ (n : Nat) (P : Prop) : Prop := n < 16777216 ∧ P
def NF (fr : Frm) (P : Frm → Prop) : Prop := P fr
theorem NF_mk {fr fr1 : Frm} {P : Frm → Prop} (h : fr = fr1) (k : P fr1) : NF fr P := by subst h; exact k
theorem asg_nm {i : Nat} {p : PV} {fr fr1 : Frm} (hi : i < fr.length) (hf : fr.set i (some (.val p)) = fr1) : asg (.nm i) p fr = some fr1 := by
  subst hf
  show (if i < fr.length then some (fr.set i (some (.val p))) else none) = _
  rw [if_pos hi]
theorem asg_tp {l : T} {xs : List PV} {fr fr1 : Frm} (h : asgL l xs fr = some fr1) : asg (.tp l) (.seq true xs) fr = some fr1 := h
theorem asgL_nil {fr : Frm} : asgL .nil [] fr = some fr := rfl
theorem asgL_cons {a l : T} {x : PV} {xs : List PV} {fr fr1 fr2 : Frm} (h : asg a x fr = some fr1) (h2 : asgL l xs fr1 = some fr2) : asgL (.cons a l) (x :: xs) fr = some fr2 := by
  show (asg a x fr).bind _ = _
  rw [h]; exact h2
/-- a caught error: P where it is of the class, Q where it is not -/
def EX (G : Sig) (c k i j n : Nat) (P Q : Prop) : Prop := ∃ l, G.anc[k]? = some l ∧ (l.contains c = true → j < n ∧ i ≠ j ∧ P) ∧ (l.contains c = false → Q)
theorem EX_in {G : Sig} {c k i j n : Nat} {P Q : Prop} {l : List Nat} (h : G.anc[k]? = some l) (hc : l.contains c = true) (h1 : j < n) (h2 : Nat.beq i j = false) (p : P) : EX G c k i j n P Q := ⟨l, h, fun _ => ⟨h1, Nat.ne_of_beq_eq_false h2, p⟩, fun h => by rw [hc] at h; cases h⟩
theorem KP_mk {p : PV} {P : Prop} (h : keep p = true) (k : P) : KP p P := ⟨h, k⟩
theorem KA_mk {xs : List PV} {P : Prop} (h : keepAll xs = true) (h2 : Nat.ble xs.length 1000 = true) (k : P) : KA xs P := ⟨h, by rw [fits_eq, szl]; have := Nat.le_of_ble_eq_true h2; omega, k⟩
theorem KL_mk {xs ys : List PV} {P : List PV → Prop} (e : xs = ys) (h : keepAll ys = true) (k : P ys) : KL xs P := by subst e; exact ⟨h, k⟩
theorem KL_0 {P : List PV → Prop} (k : P []) : KL ([] ++ []) P := ⟨rfl, k⟩
theorem KL_1 {a : PV} {P : List PV → Prop} (h : keepAll [a] = true) (k : P [a]) : KL ([a] ++ []) P := ⟨h, k⟩
theorem KL_2 {a b : PV} {P : List PV → Prop} (h : keepAll [a, b] = true) (k : P [a, b]) : KL ([a, b] ++ []) P := ⟨h, k⟩
theorem KL_3 {a b c : PV} {P : List PV → Prop} (h : keepAll [a, b, c] = true) (k : P [a, b, c]) : KL ([a, b, c] ++ []) P := ⟨h, k⟩
theorem KL_4 {a b c d : PV} {P : List PV → Prop} (h : keepAll [a, b, c, d] = true) (k : P [a, b, c, d]) : KL ([a, b, c, d] ++ []) P := ⟨h, k⟩
theorem KL_5 {a b c d e : PV} {P : List PV → Prop} (h : keepAll [a, b, c, d, e] = true) (k : P [a, b, c, d, e]) : KL ([a, b, c, d, e] ++ []) P := ⟨h, k⟩
theorem KL_6 {a b c d e f : PV} {P : List PV → Prop} (h : keepAll [a, b, c, d, e, f] = true) (k : P [a, b, c, d, e, f]) : KL ([a, b, c, d, e, f] ++ []) P := ⟨h, k⟩
theorem AS_mk {t : T} {p : PV} {fr fr1 : Frm} {N : Frm → Prop} (h : asg t p fr = some fr1) (k : N fr1) : AS t p fr N := ⟨fr1, h, k⟩
theorem OF_mk {α : Type} {o : Option α} {z : α} {P : α → Prop} (h : o = some z) (k : P z) : OF o P := ⟨z, h, k⟩
theorem SZ_mk {n : Nat} {P : Prop} (h : n < 16777216) (k : P) : SZ n P := ⟨h, k⟩
section
variable {α β : Type} {G : Sig} {fr : Frm} {st : Sto} {A : PV → Sto → Prop} {Q : α → Sto → Prop} {X : Nat → PV → Sto → Prop}
theorem WO_imp {o : Out α} {Q Q' : α → Sto → Prop} {X X' : Nat → PV → Sto → Prop} (h : WO o Q X) (k : ∀ a st, Q a st → Q' a st) (k2 : ∀ c p st, X c p st → X' c p st) : WO o Q' X' := by
  cases o with
  | ok a st => exact k _ _ h
  | exc c p st => exact k2 _ _ _ h
  | bad => exact h
theorem WO_is {o : Out α} {v : α} {st' : Sto} (h : o = .ok v st') (k : Q v st') : WO o Q X := by rw [h]; exact k
theorem WO_ex {o : Out α} {c : Nat} {p : PV} {st' : Sto} (h : o = .exc c p st') (k : X c p st') : WO o Q X := by rw [h]; exact k
theorem WO_eq {o : Out α} {v : α} {st' : Sto} (h : WO o (fun a s => a = v ∧ s = st') noX) : o = .ok v st' := by
  cases o with
  | ok a st => obtain ⟨rfl, rfl⟩ := h; rfl
  | exc c p st => exact h.elim
  | bad => exact h.elim
theorem WO_eqx {o : Out α} {c : Nat} {p : PV} {st' : Sto} (h : WO o (fun _ _ => False) (fun k q s => k = c ∧ q = p ∧ s = st')) : o = .exc c p st' := by
  cases o with
  | ok a st => exact h.elim
  | exc c p st => obtain ⟨rfl, rfl, rfl⟩ := h; rfl
  | bad => exact h.elim
theorem WO_true {o : Out PV} (h : WO o (fun v _ => v = .bl true) noX) : ∃ st, o = .ok (.bl true) st := by
  cases o with
  | ok a st => exact ⟨st, by rw [show a = PV.bl true from h]⟩
  | exc c p st => exact h.elim
  | bad => exact h.elim
theorem WO_ev {e : E} {v : PV} (h : EV G e fr st v) (k : A v st) : WO (evE G e fr st) A X := WO_is h k
theorem WO_of {o : Option α} {v : α} (h : o = some v) (k : Q v st) : WO (Out.of o st) Q X := by rw [h]; exact k
theorem WO_bind {o : Out α} {f : α → Sto → Out β} {Q : β → Sto → Prop} (h : WO o (fun a st => WO (f a st) Q X) X) : WO (o.bind f) Q X := by
  cases o with
  | ok a st => exact h
  | exc c p st => exact h
  | bad => exact h
theorem WO_call {f : Nat} {l k : E} {xs : List PV} (h : EL G l k fr st xs) (hk : keepAll xs = true) (hc : WO (G.call f xs st) A X) : WO (evE G (.call f l k) fr st) A X := by
  obtain ⟨a, b, e1, e2, rfl⟩ := h
  rw [zevE_call, e1, Out.bind_ok, e2, Out.bind_ok, if_pos hk]
  exact hc
theorem WO_callG {f : Nat} {l k : E} (h : WO (evL G l fr st) (fun xs st1 => WO (evL G k fr st1) (fun ys st2 => KL (xs ++ ys) fun zs => WO (G.call f zs st2) A X) X) X) : WO (evE G (.call f l k) fr st) A X := by
  rw [zevE_call]
  refine WO_bind (WO_imp h (fun xs st1 h => WO_bind (WO_imp h (fun ys st2 h => ?_) fun _ _ _ h => h)) fun _ _ _ h => h)
  rw [if_pos h.1]
  exact h.2
theorem WO_nil {Q : List PV → Sto → Prop} (h : Q [] st) : WO (evL G .nil fr st) Q X := by rw [zevL_nil]; exact h
theorem WO_cons {a l : E} {Q : List PV → Sto → Prop} (h : WO (evE G a fr st) (fun x st1 => WO (evL G l fr st1) (fun xs st2 => Q (x :: xs) st2) X) X) : WO (evL G (.cons a l) fr st) Q X := by
  rw [zevL_cons]
  exact WO_bind (WO_imp h (fun x st1 h => WO_bind (WO_imp h (fun xs st2 h => h) fun _ _ _ h => h)) fun _ _ _ h => h)
theorem WO_elL {l : E} {xs : List PV} {Q : List PV → Sto → Prop} (h : EL G l .nil fr st xs) (k : Q xs st) : WO (evL G l fr st) Q X := WO_is (EL_l h) k
theorem WO_tup {l : E} (h : WO (evL G l fr st) (fun xs st1 => KA xs (A (.seq true xs) st1)) X) : WO (evE G (.tup l) fr st) A X := by
  rw [zevE_tup]
  refine WO_bind (WO_imp h (fun xs st1 h => ?_) fun _ _ _ h => h)
  rw [if_pos ⟨h.1, h.2.1⟩]
  exact h.2.2
theorem WO_lst {l : E} (h : WO (evL G l fr st) (fun xs st1 => KA xs (A (.seq false xs) st1)) X) : WO (evE G (.lst l) fr st) A X := by
  rw [zevE_lst]
  refine WO_bind (WO_imp h (fun xs st1 h => ?_) fun _ _ _ h => h)
  rw [if_pos ⟨h.1, h.2.1⟩]
  exact h.2.2
theorem WO_bin {op : Op} {a b : E} (h : WO (evE G a fr st) (fun x st1 => WO (evE G b fr st1) (fun y st2 => WO (Out.of (binF op (deref fr st2 x) (deref fr st2 y)) st2) A X) X) X) : WO (evE G (.bin op a b) fr st) A X := by
  rw [zevE_bin]
  exact WO_bind (WO_imp h (fun x st1 h => WO_bind (WO_imp h (fun y st2 h => h) fun _ _ _ h => h)) fun _ _ _ h => h)
theorem WO_cmp {op : Cop} {a b : E} (h : WO (evE G a fr st) (fun x st1 => WO (evE G b fr st1) (fun y st2 => WO (Out.of (cmpF op (deref fr st2 x) (deref fr st2 y)) st2) (fun k st3 => A (.bl k) st3) X) X) X) : WO (evE G (.cmp op a b) fr st) A X := by
  rw [zevE_cmp]
  exact WO_bind (WO_imp h (fun x st1 h => WO_bind (WO_imp h (fun y st2 h => WO_bind (WO_imp h (fun k st3 h => h) fun _ _ _ h => h)) fun _ _ _ h => h)) fun _ _ _ h => h)
theorem WO_not {a : E} (h : WO (evE G a fr st) (fun x st1 => WO (Out.of (truF (deref fr st1 x)) st1) (fun k st3 => A (.bl (!k)) st3) X) X) : WO (evE G (.not a) fr st) A X := by
  rw [zevE_not]
  exact WO_bind (WO_imp h (fun x st1 h => WO_bind (WO_imp h (fun k st3 h => h) fun _ _ _ h => h)) fun _ _ _ h => h)
theorem WO_sub {a i : E} (h : WO (evE G a fr st) (fun x st1 => WO (evE G i fr st1) (fun y st2 => WO (Out.of (idxF (deref fr st2 x) y) st2) A X) X) X) : WO (evE G (.sub a i) fr st) A X := by
  rw [zevE_sub]
  exact WO_bind (WO_imp h (fun x st1 h => WO_bind (WO_imp h (fun y st2 h => h) fun _ _ _ h => h)) fun _ _ _ h => h)
theorem WO_blt {b : Blt} {l : E} (h : WO (evL G l fr st) (fun xs st1 => WO (Out.of (bltF b (xs.map (deref fr st1))) st1) A X) X) : WO (evE G (.blt b l) fr st) A X := by
  rw [zevE_blt]
  exact WO_bind (WO_imp h (fun x st1 h => h) fun _ _ _ h => h)
theorem WO_ite {c a b : E} (h : WO (evE G c fr st) (fun x st1 => WO (Out.of (truF (deref fr st1 x)) st1) (fun k st2 => (k = true → WO (evE G a fr st2) A X) ∧ (k = false → WO (evE G b fr st2) A X)) X) X) : WO (evE G (.ite c a b) fr st) A X := by
  rw [zevE_ite]
  refine WO_bind (WO_imp h (fun x st1 h => WO_bind (WO_imp h (fun k st2 h => ?_) fun _ _ _ h => h)) fun _ _ _ h => h)
  cases k
  · exact h.2 rfl
  · exact h.1 rfl
theorem WO_iteT {c a b : E} {x : PV} (h : ED G c fr st x) (hk : truF x = some true) (h1 : WO (evE G a fr st) A X) : WO (evE G (.ite c a b) fr st) A X := by
  obtain ⟨p, e, rfl⟩ := h
  rw [zevE_ite, e, Out.bind_ok, hk]; exact h1
theorem WO_iteF {c a b : E} {x : PV} (h : ED G c fr st x) (hk : truF x = some false) (h1 : WO (evE G b fr st) A X) : WO (evE G (.ite c a b) fr st) A X := by
  obtain ⟨p, e, rfl⟩ := h
  rw [zevE_ite, e, Out.bind_ok, hk]; exact h1
theorem WO_ifE {c a b : E} {x : PV} {k : Bool} (h : ED G c fr st x) (hk : truF x = some k) (h1 : k = true → WO (evE G a fr st) A X) (h2 : k = false → WO (evE G b fr st) A X) : WO (evE G (.ite c a b) fr st) A X := by
  cases k
  · exact WO_iteF h hk (h2 rfl)
  · exact WO_iteT h hk (h1 rfl)
theorem WO_and {l : E} (h : WO (evA G l fr st) A X) : WO (evE G (.and l) fr st) A X := by rw [zevE_and]; exact h
theorem WO_or {l : E} (h : WO (evR G l fr st) A X) : WO (evE G (.or l) fr st) A X := by rw [zevE_or]; exact h
theorem WO_Anil (h : A (.bl true) st) : WO (evA G .nil fr st) A X := by rw [zevA_nil]; exact h
theorem WO_Rnil (h : A (.bl false) st) : WO (evR G .nil fr st) A X := by rw [zevR_nil]; exact h
theorem WO_Acons {a l : E} (h : WO (evE G a fr st) (fun x st1 => WO (Out.of (blF x) st1) (fun b st2 => (b = true → WO (evA G l fr st2) A X) ∧ (b = false → A (.bl false) st2)) X) X) : WO (evA G (.cons a l) fr st) A X := by
  rw [zevA_cons]
  refine WO_bind (WO_imp h (fun x st1 h => WO_bind (WO_imp h (fun k st2 h => ?_) fun _ _ _ h => h)) fun _ _ _ h => h)
  cases k
  · exact h.2 rfl
  · exact h.1 rfl
theorem WO_Rcons {a l : E} (h : WO (evE G a fr st) (fun x st1 => WO (Out.of (blF x) st1) (fun b st2 => (b = true → A (.bl true) st2) ∧ (b = false → WO (evR G l fr st2) A X)) X) X) : WO (evR G (.cons a l) fr st) A X := by
  rw [zevR_cons]
  refine WO_bind (WO_imp h (fun x st1 h => WO_bind (WO_imp h (fun k st2 h => ?_) fun _ _ _ h => h)) fun _ _ _ h => h)
  cases k
  · exact h.2 rfl
  · exact h.1 rfl
/-- a comprehension whose items change the store: P tells of the store and how many items are left -/
theorem compRun_W {e : α → PV} {els : Frm → Sto → Out PV} {tg : T} {P : Nat → Sto → Prop} {q : α → PV → Prop} {A : List PV → Sto → Prop} : ∀ (xs : List α) (acc : List PV) (st : Sto), P xs.length st →
    (∀ x ∈ xs, ∀ n st, P (n + 1) st → ∃ fr1, asg tg (e x) fr = some fr1 ∧ WO (els fr1 st) (fun v st' => keep v = true ∧ q x v ∧ P n st') noX) →
    (∀ ys st', P 0 st' → ys.length = xs.length → (∀ i (h : i < xs.length) (h' : i < ys.length), q xs[i] ys[i]) → A (acc ++ ys) st') →
    WO (compRun els (fun _ st => .ok true st) tg fr (xs.map e) acc st) A X
  | [], acc, st, hP, _, hA => by
    show A acc st
    have := hA [] st hP rfl fun i h _ => absurd h (by simp)
    rwa [List.append_nil] at this
  | x :: xs, acc, st, hP, hs, hA => by
    obtain ⟨fr1, h1, h2⟩ := hs x List.mem_cons_self xs.length st hP
    rw [List.map_cons]
    unfold compRun
    simp only [h1]
    cases he : els fr1 st with
    | ok p st' =>
      rw [he] at h2
      obtain ⟨k, hq, hp⟩ := h2
      simp only [k, if_true]
      refine compRun_W xs _ _ hp (fun y hy => hs y (List.mem_cons_of_mem _ hy)) fun ys st2 hp2 hl hqs => ?_
      rw [List.append_assoc]
      refine hA (p :: ys) st2 hp2 (by rw [List.length_cons, List.length_cons, hl]) fun i h h' => ?_
      cases i with
      | zero => exact hq
      | succ i => exact hqs i (by simpa using h) (by simpa using h')
    | exc c p st' =>
      rw [he] at h2
      exact h2.elim
    | bad =>
      rw [he] at h2
      exact h2.elim
theorem WO_comp {e : α → PV} {xs : List α} {own : List Nat} {elt : E} {tg : T} {it : E} (P : Nat → Sto → Prop) (q : α → PV → Prop) (h : EI G it fr st (xs.map e)) (h0 : P xs.length st)
    (h1 : ∀ x ∈ xs, ∀ n st, P (n + 1) st → ∃ fr1, asg tg (e x) (wipeF fr own) = some fr1 ∧ WO (evE G elt fr1 st) (fun v st' => keep v = true ∧ q x v ∧ P n st') noX)
    (h2 : ∀ ys st', P 0 st' → ys.length = xs.length → (∀ i (h : i < xs.length) (h' : i < ys.length), q xs[i] ys[i]) → A (.seq false ys) st') : WO (evE G (.comp own elt tg it .nil) fr st) A X := by
  rw [zevE_comp, h, Out.bind_ok, show evC G .nil = fun _ st => .ok true st from rfl]
  exact WO_bind (compRun_W (q := q) xs [] st h0 h1 fun ys st' a b c => by rw [List.nil_append]; exact h2 ys st' a b c)
/-- a call's run -/
theorem WO_run {F : Fn} {ps : List PV} {fr0 : Frm} (hl : ps.length = F.np + F.ks.length) (hf : startF F.N (ps ++ F.df) = fr0) (h : WS (exS G F.body fr0 st) (fun _ st => A .non st) A noF noF (fun c p _ st => X c p st)) : WO (runFn G F ps st) A X := by
  unfold runFn
  rw [if_pos hl, hf]
  cases hb : exS G F.body fr0 st <;> rw [hb] at h <;> first | exact h | exact h.elim
end
section
variable {α : Type} {G : Sig} {fr : Frm} {st : Sto} {N : Frm → Sto → Prop} {R : PV → Sto → Prop} {K B : Frm → Sto → Prop} {X : Nat → PV → Frm → Sto → Prop}
theorem WS_imp {r : Res} {N N' : Frm → Sto → Prop} {R R' : PV → Sto → Prop} {K K' B B' : Frm → Sto → Prop} {X X' : Nat → PV → Frm → Sto → Prop} (h : WS r N R K B X) (h1 : ∀ fr st, N fr st → N' fr st) (h2 : ∀ p st, R p st → R' p st) (h3 : ∀ fr st, K fr st → K' fr st) (h4 : ∀ fr st, B fr st → B' fr st) (h5 : ∀ c p fr st, X c p fr st → X' c p fr st) : WS r N' R' K' B' X' := by
  cases r with
  | nx fr st => exact h1 _ _ h
  | rt p st => exact h2 _ _ h
  | ct fr st => exact h3 _ _ h
  | bk fr st => exact h4 _ _ h
  | ex c p fr st => exact h5 _ _ _ _ h
  | bad => exact h
theorem WS_res {o : Out α} {k : α → Sto → Res} (h : WO o (fun a st => WS (k a st) N R K B X) (fun c p st => X c p fr st)) : WS (o.res fr k) N R K B X := by
  cases o <;> exact h
theorem WS_then {r : Res} {k : Frm → Sto → Res} (h : WS r (fun fr st => WS (k fr st) N R K B X) R K B X) : WS (r.then k) N R K B X := by
  cases r <;> exact h
theorem WS_nop (h : N fr st) : WS (exS G .nop fr st) N R K B X := by rw [zexS_nop]; exact h
theorem WS_doc (h : N fr st) : WS (exS G .doc fr st) N R K B X := by rw [zexS_doc]; exact h
theorem WS_seq {a b : S} (h : WS (exS G a fr st) (fun fr st => WS (exS G b fr st) N R K B X) R K B X) : WS (exS G (.seq a b) fr st) N R K B X := by
  rw [zexS_seq]; exact WS_then h
theorem WS_frz {i : Nat} {b : S} {xs : List PV} (h : fr[i]? = some (some (.own xs))) (k : NF (fr.set i (some (.val (.seq false xs)))) fun fr1 => WS (exS G b fr1 st) N R K B X) : WS (exS G (.frz i b) fr st) N R K B X := by
  rw [zexS_frz, frzF, h]; exact k
theorem WS_set {i : Nat} {e : E} (h : WO (evE G e fr st) (fun p st1 => WS (Res.ofF (setF i p fr) st1) N R K B X) (fun c p st => X c p fr st)) : WS (exS G (.set i e) fr st) N R K B X := by
  rw [zexS_set]; exact WS_res h
theorem WS_setF {i : Nat} {p : PV} (hk : keep p = true) (hi : i < fr.length) (k : NF (fr.set i (some (.val p))) fun fr1 => N fr1 st) : WS (Res.ofF (setF i p fr) st) N R K B X := by
  rw [setF, if_pos ⟨hk, hi⟩]; exact k
theorem WS_own {i : Nat} {e : E} (h : WO (evE G e fr st) (fun p st1 => WS (Res.ofF (ownF i p fr) st1) N R K B X) (fun c p st => X c p fr st)) : WS (exS G (.own i e) fr st) N R K B X := by
  rw [zexS_own]; exact WS_res h
theorem WS_ownF {i : Nat} {xs : List PV} (hi : i < fr.length) (k : NF (fr.set i (some (.own xs))) fun fr1 => N fr1 st) : WS (Res.ofF (ownF i (.seq false xs) fr) st) N R K B X := by
  rw [ownF, if_pos hi]; exact k
theorem WS_tgt {t : T} {e : E} (h : WO (evE G e fr st) (fun p st1 => KP p (AS t p fr fun fr1 => N fr1 st1)) (fun c p st => X c p fr st)) : WS (exS G (.tgt t e) fr st) N R K B X := by
  rw [zexS_tgt]
  refine WS_res (WO_imp h (fun p st1 h => ?_) fun _ _ _ h => h)
  obtain ⟨h1, fr1, h2, h3⟩ := h
  rw [if_pos h1, h2]; exact h3
theorem WS_par {i j : Nat} {a b : E} (h : WO (evE G a fr st) (fun p st1 => WO (evE G b fr st1) (fun q st2 => KP p (KP q (i < fr.length ∧ j < fr.length ∧ NF ((fr.set i (some (.val p))).set j (some (.val q))) fun fr1 => N fr1 st2))) (fun c p st => X c p fr st)) (fun c p st => X c p fr st)) : WS (exS G (.par i j a b) fr st) N R K B X := by
  rw [zexS_par]
  refine WS_res (WO_imp h (fun p st1 h => WS_res (WO_imp h (fun q st2 h => ?_) fun _ _ _ h => h)) fun _ _ _ h => h)
  obtain ⟨h1, h2, h3, h4, h5⟩ := h
  rw [setF, if_pos ⟨h1, h3⟩, Option.bind_some, setF, if_pos ⟨h2, by rw [List.length_set]; exact h4⟩]; exact h5
theorem WS_par3 {i j l : Nat} {a b d : E} (h : WO (evE G a fr st) (fun p st1 => WO (evE G b fr st1) (fun q st2 => WO (evE G d fr st2) (fun r st3 => KP p (KP q (KP r (i < fr.length ∧ j < fr.length ∧ l < fr.length ∧ NF (((fr.set i (some (.val p))).set j (some (.val q))).set l (some (.val r))) fun fr1 => N fr1 st3)))) (fun c p st => X c p fr st)) (fun c p st => X c p fr st)) (fun c p st => X c p fr st)) : WS (exS G (.par3 i j l a b d) fr st) N R K B X := by
  rw [zexS_par3]
  refine WS_res (WO_imp h (fun p st1 h => WS_res (WO_imp h (fun q st2 h => WS_res (WO_imp h (fun r st3 h => ?_) fun _ _ _ h => h)) fun _ _ _ h => h)) fun _ _ _ h => h)
  obtain ⟨h1, h2, h3, h4, h5, h6, h7⟩ := h
  rw [setF, if_pos ⟨h1, h4⟩, Option.bind_some, setF, if_pos ⟨h2, by rw [List.length_set]; exact h5⟩, Option.bind_some, setF, if_pos ⟨h3, by rw [List.length_set, List.length_set]; exact h6⟩]; exact h7
theorem L3_mk {a b c n : Nat} {P : Prop} (h1 : a < n) (h2 : b < n) (h3 : c < n) (k : P) : a < n ∧ b < n ∧ c < n ∧ P := ⟨h1, h2, h3, k⟩
theorem L2_mk {a b n : Nat} {P : Prop} (h1 : a < n) (h2 : b < n) (k : P) : a < n ∧ b < n ∧ P := ⟨h1, h2, k⟩
theorem WS_aug {i : Nat} {op : Op} {e : E} {x : PV} (hv : fr[i]? = some (some (.val x))) (h : WO (evE G e fr st) (fun y st1 => OF (augF op x y) fun z => KP z (NF (fr.set i (some (.val z))) fun fr1 => N fr1 st1)) (fun c p st => X c p fr st)) : WS (exS G (.aug i op e) fr st) N R K B X := by
  have hv' : valF fr i = some x := by unfold valF; rw [hv]
  rw [zexS_aug, hv']
  refine WS_res (WO_imp h (fun y st1 h => ?_) fun _ _ _ h => h)
  obtain ⟨z, h1, h2, h4⟩ := h
  rw [h1, Option.bind_some, setF, if_pos ⟨h2, (List.getElem?_eq_some_iff.mp hv).1⟩]; exact h4
theorem WS_app {i : Nat} {e : E} {xs : List PV} (hv : fr[i]? = some (some (.own xs))) (h : WO (evE G e fr st) (fun p st1 => KP p (SZ xs.length (NF (fr.set i (some (.own (xs ++ [p])))) fun fr1 => N fr1 st1))) (fun c p st => X c p fr st)) : WS (exS G (.app i e) fr st) N R K B X := by
  have hl : lstSlot fr st i = true := by unfold lstSlot; rw [hv]
  rw [zexS_app, if_pos hl]
  refine WS_res (WO_imp h (fun p st1 h => ?_) fun _ _ _ h => h)
  have e1 : appF p xs = some (xs ++ [p]) := if_pos ⟨h.1, by rw [szl]; exact h.2.1⟩
  unfold wrF
  rw [hv]
  simp only [e1]
  exact h.2.2
theorem WS_sto {i : Nat} {k e : E} {xs : List PV} (hv : fr[i]? = some (some (.own xs))) (h : WO (evE G e fr st) (fun p st1 => WO (evE G k fr st1) (fun q st2 => OF (stoF q p xs) fun ys => NF (fr.set i (some (.own ys))) fun fr1 => N fr1 st2) (fun c p st => X c p fr st)) (fun c p st => X c p fr st)) : WS (exS G (.sto i k e) fr st) N R K B X := by
  have hl : lstSlot fr st i = true := by unfold lstSlot; rw [hv]
  rw [zexS_sto, if_pos hl]
  refine WS_res (WO_imp h (fun p st1 h => WS_res (WO_imp h (fun q st2 h => ?_) fun _ _ _ h => h)) fun _ _ _ h => h)
  obtain ⟨ys, h1, h2⟩ := h
  unfold wrF
  rw [hv]
  simp only [h1]
  exact h2
theorem WS_swp {i : Nat} {a b v : E} {xs : List PV} (hv : fr[i]? = some (some (.own xs))) (h : WO (evE G v fr st) (fun t st1 => OF (pairF t) fun pq => WO (evE G a fr st1) (fun j st2 => OF (stoF j pq.1 xs) fun ys => WO (evE G b (fr.set i (some (.own ys))) st2) (fun k st3 => OF (stoF k pq.2 ys) fun zs => NF ((fr.set i (some (.own ys))).set i (some (.own zs))) fun fr1 => N fr1 st3) (fun c p st => X c p (fr.set i (some (.own ys))) st)) (fun c p st => X c p fr st)) (fun c p st => X c p fr st)) : WS (exS G (.swp i a b v) fr st) N R K B X := by
  have hl : lstSlot fr st i = true := by unfold lstSlot; rw [hv]
  have hi : i < fr.length := (List.getElem?_eq_some_iff.mp hv).1
  rw [zexS_swp, if_pos hl]
  refine WS_res (WO_imp h (fun p st1 h => ?_) fun _ _ _ h => h)
  obtain ⟨⟨p, q⟩, h1, h2⟩ := h
  simp only [h1]
  refine WS_res (WO_imp h2 (fun j st2 h => ?_) fun _ _ _ h => h)
  obtain ⟨ys, h3, h4⟩ := h
  have e1 : wrF fr st2 i (stoF j p) = .nx (fr.set i (some (.own ys))) st2 := by
    unfold wrF
    rw [hv]
    simp only [h3]
  rw [e1, Res.then_nx]
  refine WS_res (WO_imp h4 (fun k st3 h => ?_) fun _ _ _ h => h)
  obtain ⟨zs, h5, h6⟩ := h
  unfold wrF
  rw [List.getElem?_set_self hi]
  simp only [h5]
  exact h6
theorem WS_ins {i : Nat} {k e : E} {xs : List PV} (hv : fr[i]? = some (some (.own xs))) (h : WO (evE G k fr st) (fun q st1 => WO (evE G e fr st1) (fun p st2 => OF (insL q p xs) fun ys => NF (fr.set i (some (.own ys))) fun fr1 => N fr1 st2) (fun c p st => X c p fr st)) (fun c p st => X c p fr st)) : WS (exS G (.ins i k e) fr st) N R K B X := by
  have hl : lstSlot fr st i = true := by unfold lstSlot; rw [hv]
  rw [zexS_ins, if_pos hl]
  refine WS_res (WO_imp h (fun p st1 h => WS_res (WO_imp h (fun q st2 h => ?_) fun _ _ _ h => h)) fun _ _ _ h => h)
  obtain ⟨ys, h1, h2⟩ := h
  unfold wrF
  rw [hv]
  simp only [h1]
  exact h2
theorem WS_xpr {e : E} (h : WO (evE G e fr st) (fun _ st1 => N fr st1) (fun c p st => X c p fr st)) : WS (exS G (.xpr e) fr st) N R K B X := by
  rw [zexS_xpr]; exact WS_res h
theorem WS_ret {e : E} (h : WO (evE G e fr st) (fun p st1 => KP p (R p st1)) (fun c p st => X c p fr st)) : WS (exS G (.ret e) fr st) N R K B X := by
  rw [zexS_ret]
  refine WS_res (WO_imp h (fun p st1 h => ?_) fun _ _ _ h => h)
  rw [if_pos h.1]; exact h.2
theorem WS_retN (h : R .non st) : WS (exS G .retN fr st) N R K B X := by rw [zexS_retN]; exact h
theorem WS_retF {e : E} (h : WO (evE G e fr st) (fun p st1 => ∃ xs, p = .seq false xs ∧ R (.ref st1.length) (st1 ++ [xs])) (fun c p st => X c p fr st)) : WS (exS G (.retF e) fr st) N R K B X := by
  rw [zexS_retF]
  refine WS_res (WO_imp h (fun p st1 h => ?_) fun _ _ _ h => h)
  obtain ⟨xs, rfl, h⟩ := h
  exact h
theorem evT_ed {c : E} {x : PV} {b : Bool} (h : ED G c fr st x) (hb : truF x = some b) : evT G c fr st = .ok b st := by
  obtain ⟨p, e, rfl⟩ := h
  show (evE G c fr st).bind _ = _
  rw [e, Out.bind_ok, hb]; rfl
theorem WS_ite {c : E} {a b : S} {x : PV} {k : Bool} (h : ED G c fr st x) (hk : truF x = some k) (h1 : k = true → WS (exS G a fr st) N R K B X) (h2 : k = false → WS (exS G b fr st) N R K B X) : WS (exS G (.ite c a b) fr st) N R K B X := by
  rw [zexS_ite, evT_ed h hk, Out.res_ok]
  cases k
  · exact h2 rfl
  · exact h1 rfl
theorem WS_iteT {c : E} {a b : S} {x : PV} (h : ED G c fr st x) (hk : truF x = some true) (h1 : WS (exS G a fr st) N R K B X) : WS (exS G (.ite c a b) fr st) N R K B X := WS_ite h hk (fun _ => h1) (fun h => nomatch h)
theorem WS_iteF {c : E} {a b : S} {x : PV} (h : ED G c fr st x) (hk : truF x = some false) (h1 : WS (exS G b fr st) N R K B X) : WS (exS G (.ite c a b) fr st) N R K B X := WS_ite h hk (fun h => nomatch h) (fun _ => h1)
theorem WS_iteG {c : E} {a b : S} (h : WO (evE G c fr st) (fun x st1 => WO (Out.of (truF (deref fr st1 x)) st1) (fun k st2 => (k = true → WS (exS G a fr st2) N R K B X) ∧ (k = false → WS (exS G b fr st2) N R K B X)) (fun c p st => X c p fr st)) (fun c p st => X c p fr st)) : WS (exS G (.ite c a b) fr st) N R K B X := by
  rw [zexS_ite]
  refine WS_res (WO_bind (WO_imp h (fun x st1 h => WO_imp h (fun k st2 h => ?_) fun _ _ _ h => h) fun _ _ _ h => h))
  cases k
  · exact h.2 rfl
  · exact h.1 rfl
theorem forRun_W {e : α → PV} {t : T} {body : Frm → Sto → Res} (I : List α → Frm → Sto → Prop) : ∀ (xs pre : List α) (fr : Frm) (st : Sto), I pre fr st →
    (∀ pre' x post fr st, pre ++ xs = pre' ++ x :: post → I pre' fr st → ∃ fr1, asg t (e x) fr = some fr1 ∧ WS (body fr1 st) (I (pre' ++ [x])) R (I (pre' ++ [x])) N X) → (∀ fr st, I (pre ++ xs) fr st → N fr st) → WS (forRun t body (xs.map e) fr st) N R K B X
  | [], pre, fr, st, h, _, hN => hN _ _ (by rw [List.append_nil]; exact h)
  | x :: xs, pre, fr, st, h, hs, hN => by
    obtain ⟨fr1, h1, h2⟩ := hs pre x xs fr st rfl h
    rw [List.map_cons]
    unfold forRun
    simp only [h1]
    have go : ∀ fr2 st2, I (pre ++ [x]) fr2 st2 → WS (forRun t body (xs.map e) fr2 st2) N R K B X := fun fr2 st2 h3 => forRun_W I xs (pre ++ [x]) fr2 st2 h3 (fun pre' y post fr st hp hi => hs pre' y post fr st (by rw [← hp, List.append_assoc]; rfl) hi) (fun fr st h => hN fr st (by rw [List.append_assoc] at h; exact h))
    cases hb : body fr1 st with
    | nx fr2 st2 => rw [hb] at h2; exact go _ _ h2
    | ct fr2 st2 => rw [hb] at h2; exact go _ _ h2
    | rt p st2 => rw [hb] at h2; exact h2
    | bk fr2 st2 => rw [hb] at h2; exact h2
    | ex c p fr2 st2 => rw [hb] at h2; exact h2
    | bad => rw [hb] at h2; exact h2.elim
/-- a loop: I tells of the items that are through -/
theorem WS_for {e : α → PV} {xs : List α} {t : T} {it : E} {b : S} (I : List α → Frm → Sto → Prop) (h0 : EI G it fr st (xs.map e)) (hi : I [] fr st)
    (hs : ∀ pre x post fr st, xs = pre ++ x :: post → I pre fr st → ∃ fr1, asg t (e x) fr = some fr1 ∧ WS (exS G b fr1 st) (I (pre ++ [x])) R (I (pre ++ [x])) N X) (hN : ∀ fr st, I xs fr st → N fr st) : WS (exS G (.for t it b) fr st) N R K B X := by
  rw [zexS_for, h0, Out.res_ok]
  exact forRun_W I xs [] fr st hi (fun pre x post fr st h => hs pre x post fr st h) hN
theorem WS_forR {xs : List PV} {t : T} {it : E} {b : S} (I : List PV → Frm → Sto → Prop) (h0 : EI G it fr st xs) (hi : I [] fr st)
    (hs : ∀ pre x post fr st, xs = pre ++ x :: post → I pre fr st → ∃ fr1, asg t x fr = some fr1 ∧ WS (exS G b fr1 st) (I (pre ++ [x])) R (I (pre ++ [x])) N X) (hN : ∀ fr st, I xs fr st → N fr st) : WS (exS G (.for t it b) fr st) N R K B X :=
  WS_for (e := fun x => x) I (by rw [show (fun x : PV => x) = id from rfl, List.map_id]; exact h0) hi hs hN
theorem set_same : ∀ (fr : Frm) (i : Nat), fr.set i (fr.getD i none) = fr
  | [], _ => rfl
  | x :: fr, 0 => rfl
  | x :: fr, i + 1 => by rw [List.set_cons_succ]; show x :: fr.set i (fr.getD i none) = _; rw [set_same fr i]
/-- a loop that changes 1 slots -/
theorem WS_f1 {e : α → PV} {xs : List α} {t : T} {it : E} {b : S} (i0 : Nat) (J : List α → Option FV → Sto → Prop) (h0 : EI G it fr st (xs.map e)) (hi : J [] (fr.getD i0 none) st)
    (hs : ∀ pre x post a0 s, xs = pre ++ x :: post → J pre a0 s → ∃ fr1, asg t (e x) (fr.set i0 a0) = some fr1 ∧ WS (exS G b fr1 s) (fun fr' s' => ∃ a0, fr' = (fr.set i0 a0) ∧ J (pre ++ [x]) a0 s') R (fun fr' s' => ∃ a0, fr' = (fr.set i0 a0) ∧ J (pre ++ [x]) a0 s') N X)
    (hN : ∀ a0 s, J xs a0 s → NF (fr.set i0 a0) fun fr' => N fr' s) : WS (exS G (.for t it b) fr st) N R K B X := by
  refine WS_for (fun pre fr' s' => ∃ a0, fr' = (fr.set i0 a0) ∧ J pre a0 s') h0 ⟨(fr.getD i0 none), by simp only [set_same], hi⟩ (fun pre x post fr' s' e h => ?_) (fun fr' s' h => ?_)
  · obtain ⟨a0, rfl, h⟩ := h
    exact hs pre x post a0 s' e h
  · obtain ⟨a0, rfl, h⟩ := h
    exact hN a0 s' h
theorem WS_r1 {xs : List PV} {t : T} {it : E} {b : S} (i0 : Nat) (J : List PV → Option FV → Sto → Prop) (h0 : EI G it fr st xs) (hi : J [] (fr.getD i0 none) st)
    (hs : ∀ pre x post a0 s, xs = pre ++ x :: post → J pre a0 s → ∃ fr1, asg t x (fr.set i0 a0) = some fr1 ∧ WS (exS G b fr1 s) (fun fr' s' => ∃ a0, fr' = (fr.set i0 a0) ∧ J (pre ++ [x]) a0 s') R (fun fr' s' => ∃ a0, fr' = (fr.set i0 a0) ∧ J (pre ++ [x]) a0 s') N X)
    (hN : ∀ a0 s, J xs a0 s → NF (fr.set i0 a0) fun fr' => N fr' s) : WS (exS G (.for t it b) fr st) N R K B X :=
  WS_f1 (e := fun x => x) i0 J (by rw [show (fun x : PV => x) = id from rfl, List.map_id]; exact h0) hi hs hN
/-- a loop that changes 2 slots -/
theorem WS_f2 {e : α → PV} {xs : List α} {t : T} {it : E} {b : S} (i0 i1 : Nat) (J : List α → Option FV → Option FV → Sto → Prop) (h0 : EI G it fr st (xs.map e)) (hi : J [] (fr.getD i0 none) (fr.getD i1 none) st)
    (hs : ∀ pre x post a0 a1 s, xs = pre ++ x :: post → J pre a0 a1 s → ∃ fr1, asg t (e x) ((fr.set i0 a0).set i1 a1) = some fr1 ∧ WS (exS G b fr1 s) (fun fr' s' => ∃ a0 a1, fr' = ((fr.set i0 a0).set i1 a1) ∧ J (pre ++ [x]) a0 a1 s') R (fun fr' s' => ∃ a0 a1, fr' = ((fr.set i0 a0).set i1 a1) ∧ J (pre ++ [x]) a0 a1 s') N X)
    (hN : ∀ a0 a1 s, J xs a0 a1 s → NF ((fr.set i0 a0).set i1 a1) fun fr' => N fr' s) : WS (exS G (.for t it b) fr st) N R K B X := by
  refine WS_for (fun pre fr' s' => ∃ a0 a1, fr' = ((fr.set i0 a0).set i1 a1) ∧ J pre a0 a1 s') h0 ⟨(fr.getD i0 none), (fr.getD i1 none), by simp only [set_same], hi⟩ (fun pre x post fr' s' e h => ?_) (fun fr' s' h => ?_)
  · obtain ⟨a0, a1, rfl, h⟩ := h
    exact hs pre x post a0 a1 s' e h
  · obtain ⟨a0, a1, rfl, h⟩ := h
    exact hN a0 a1 s' h
theorem WS_r2 {xs : List PV} {t : T} {it : E} {b : S} (i0 i1 : Nat) (J : List PV → Option FV → Option FV → Sto → Prop) (h0 : EI G it fr st xs) (hi : J [] (fr.getD i0 none) (fr.getD i1 none) st)
    (hs : ∀ pre x post a0 a1 s, xs = pre ++ x :: post → J pre a0 a1 s → ∃ fr1, asg t x ((fr.set i0 a0).set i1 a1) = some fr1 ∧ WS (exS G b fr1 s) (fun fr' s' => ∃ a0 a1, fr' = ((fr.set i0 a0).set i1 a1) ∧ J (pre ++ [x]) a0 a1 s') R (fun fr' s' => ∃ a0 a1, fr' = ((fr.set i0 a0).set i1 a1) ∧ J (pre ++ [x]) a0 a1 s') N X)
    (hN : ∀ a0 a1 s, J xs a0 a1 s → NF ((fr.set i0 a0).set i1 a1) fun fr' => N fr' s) : WS (exS G (.for t it b) fr st) N R K B X :=
  WS_f2 (e := fun x => x) i0 i1 J (by rw [show (fun x : PV => x) = id from rfl, List.map_id]; exact h0) hi hs hN
/-- a loop that changes 3 slots -/
theorem WS_f3 {e : α → PV} {xs : List α} {t : T} {it : E} {b : S} (i0 i1 i2 : Nat) (J : List α → Option FV → Option FV → Option FV → Sto → Prop) (h0 : EI G it fr st (xs.map e)) (hi : J [] (fr.getD i0 none) (fr.getD i1 none) (fr.getD i2 none) st)
    (hs : ∀ pre x post a0 a1 a2 s, xs = pre ++ x :: post → J pre a0 a1 a2 s → ∃ fr1, asg t (e x) (((fr.set i0 a0).set i1 a1).set i2 a2) = some fr1 ∧ WS (exS G b fr1 s) (fun fr' s' => ∃ a0 a1 a2, fr' = (((fr.set i0 a0).set i1 a1).set i2 a2) ∧ J (pre ++ [x]) a0 a1 a2 s') R (fun fr' s' => ∃ a0 a1 a2, fr' = (((fr.set i0 a0).set i1 a1).set i2 a2) ∧ J (pre ++ [x]) a0 a1 a2 s') N X)
    (hN : ∀ a0 a1 a2 s, J xs a0 a1 a2 s → NF (((fr.set i0 a0).set i1 a1).set i2 a2) fun fr' => N fr' s) : WS (exS G (.for t it b) fr st) N R K B X := by
  refine WS_for (fun pre fr' s' => ∃ a0 a1 a2, fr' = (((fr.set i0 a0).set i1 a1).set i2 a2) ∧ J pre a0 a1 a2 s') h0 ⟨(fr.getD i0 none), (fr.getD i1 none), (fr.getD i2 none), by simp only [set_same], hi⟩ (fun pre x post fr' s' e h => ?_) (fun fr' s' h => ?_)
  · obtain ⟨a0, a1, a2, rfl, h⟩ := h
    exact hs pre x post a0 a1 a2 s' e h
  · obtain ⟨a0, a1, a2, rfl, h⟩ := h
    exact hN a0 a1 a2 s' h
theorem WS_r3 {xs : List PV} {t : T} {it : E} {b : S} (i0 i1 i2 : Nat) (J : List PV → Option FV → Option FV → Option FV → Sto → Prop) (h0 : EI G it fr st xs) (hi : J [] (fr.getD i0 none) (fr.getD i1 none) (fr.getD i2 none) st)
    (hs : ∀ pre x post a0 a1 a2 s, xs = pre ++ x :: post → J pre a0 a1 a2 s → ∃ fr1, asg t x (((fr.set i0 a0).set i1 a1).set i2 a2) = some fr1 ∧ WS (exS G b fr1 s) (fun fr' s' => ∃ a0 a1 a2, fr' = (((fr.set i0 a0).set i1 a1).set i2 a2) ∧ J (pre ++ [x]) a0 a1 a2 s') R (fun fr' s' => ∃ a0 a1 a2, fr' = (((fr.set i0 a0).set i1 a1).set i2 a2) ∧ J (pre ++ [x]) a0 a1 a2 s') N X)
    (hN : ∀ a0 a1 a2 s, J xs a0 a1 a2 s → NF (((fr.set i0 a0).set i1 a1).set i2 a2) fun fr' => N fr' s) : WS (exS G (.for t it b) fr st) N R K B X :=
  WS_f3 (e := fun x => x) i0 i1 i2 J (by rw [show (fun x : PV => x) = id from rfl, List.map_id]; exact h0) hi hs hN
/-- a loop that changes 4 slots -/
theorem WS_f4 {e : α → PV} {xs : List α} {t : T} {it : E} {b : S} (i0 i1 i2 i3 : Nat) (J : List α → Option FV → Option FV → Option FV → Option FV → Sto → Prop) (h0 : EI G it fr st (xs.map e)) (hi : J [] (fr.getD i0 none) (fr.getD i1 none) (fr.getD i2 none) (fr.getD i3 none) st)
    (hs : ∀ pre x post a0 a1 a2 a3 s, xs = pre ++ x :: post → J pre a0 a1 a2 a3 s → ∃ fr1, asg t (e x) ((((fr.set i0 a0).set i1 a1).set i2 a2).set i3 a3) = some fr1 ∧ WS (exS G b fr1 s) (fun fr' s' => ∃ a0 a1 a2 a3, fr' = ((((fr.set i0 a0).set i1 a1).set i2 a2).set i3 a3) ∧ J (pre ++ [x]) a0 a1 a2 a3 s') R (fun fr' s' => ∃ a0 a1 a2 a3, fr' = ((((fr.set i0 a0).set i1 a1).set i2 a2).set i3 a3) ∧ J (pre ++ [x]) a0 a1 a2 a3 s') N X)
    (hN : ∀ a0 a1 a2 a3 s, J xs a0 a1 a2 a3 s → NF ((((fr.set i0 a0).set i1 a1).set i2 a2).set i3 a3) fun fr' => N fr' s) : WS (exS G (.for t it b) fr st) N R K B X := by
  refine WS_for (fun pre fr' s' => ∃ a0 a1 a2 a3, fr' = ((((fr.set i0 a0).set i1 a1).set i2 a2).set i3 a3) ∧ J pre a0 a1 a2 a3 s') h0 ⟨(fr.getD i0 none), (fr.getD i1 none), (fr.getD i2 none), (fr.getD i3 none), by simp only [set_same], hi⟩ (fun pre x post fr' s' e h => ?_) (fun fr' s' h => ?_)
  · obtain ⟨a0, a1, a2, a3, rfl, h⟩ := h
    exact hs pre x post a0 a1 a2 a3 s' e h
  · obtain ⟨a0, a1, a2, a3, rfl, h⟩ := h
    exact hN a0 a1 a2 a3 s' h
theorem WS_r4 {xs : List PV} {t : T} {it : E} {b : S} (i0 i1 i2 i3 : Nat) (J : List PV → Option FV → Option FV → Option FV → Option FV → Sto → Prop) (h0 : EI G it fr st xs) (hi : J [] (fr.getD i0 none) (fr.getD i1 none) (fr.getD i2 none) (fr.getD i3 none) st)
    (hs : ∀ pre x post a0 a1 a2 a3 s, xs = pre ++ x :: post → J pre a0 a1 a2 a3 s → ∃ fr1, asg t x ((((fr.set i0 a0).set i1 a1).set i2 a2).set i3 a3) = some fr1 ∧ WS (exS G b fr1 s) (fun fr' s' => ∃ a0 a1 a2 a3, fr' = ((((fr.set i0 a0).set i1 a1).set i2 a2).set i3 a3) ∧ J (pre ++ [x]) a0 a1 a2 a3 s') R (fun fr' s' => ∃ a0 a1 a2 a3, fr' = ((((fr.set i0 a0).set i1 a1).set i2 a2).set i3 a3) ∧ J (pre ++ [x]) a0 a1 a2 a3 s') N X)
    (hN : ∀ a0 a1 a2 a3 s, J xs a0 a1 a2 a3 s → NF ((((fr.set i0 a0).set i1 a1).set i2 a2).set i3 a3) fun fr' => N fr' s) : WS (exS G (.for t it b) fr st) N R K B X :=
  WS_f4 (e := fun x => x) i0 i1 i2 i3 J (by rw [show (fun x : PV => x) = id from rfl, List.map_id]; exact h0) hi hs hN
/-- a loop that changes 5 slots -/
theorem WS_f5 {e : α → PV} {xs : List α} {t : T} {it : E} {b : S} (i0 i1 i2 i3 i4 : Nat) (J : List α → Option FV → Option FV → Option FV → Option FV → Option FV → Sto → Prop) (h0 : EI G it fr st (xs.map e)) (hi : J [] (fr.getD i0 none) (fr.getD i1 none) (fr.getD i2 none) (fr.getD i3 none) (fr.getD i4 none) st)
    (hs : ∀ pre x post a0 a1 a2 a3 a4 s, xs = pre ++ x :: post → J pre a0 a1 a2 a3 a4 s → ∃ fr1, asg t (e x) (((((fr.set i0 a0).set i1 a1).set i2 a2).set i3 a3).set i4 a4) = some fr1 ∧ WS (exS G b fr1 s) (fun fr' s' => ∃ a0 a1 a2 a3 a4, fr' = (((((fr.set i0 a0).set i1 a1).set i2 a2).set i3 a3).set i4 a4) ∧ J (pre ++ [x]) a0 a1 a2 a3 a4 s') R (fun fr' s' => ∃ a0 a1 a2 a3 a4, fr' = (((((fr.set i0 a0).set i1 a1).set i2 a2).set i3 a3).set i4 a4) ∧ J (pre ++ [x]) a0 a1 a2 a3 a4 s') N X)
    (hN : ∀ a0 a1 a2 a3 a4 s, J xs a0 a1 a2 a3 a4 s → NF (((((fr.set i0 a0).set i1 a1).set i2 a2).set i3 a3).set i4 a4) fun fr' => N fr' s) : WS (exS G (.for t it b) fr st) N R K B X := by
  refine WS_for (fun pre fr' s' => ∃ a0 a1 a2 a3 a4, fr' = (((((fr.set i0 a0).set i1 a1).set i2 a2).set i3 a3).set i4 a4) ∧ J pre a0 a1 a2 a3 a4 s') h0 ⟨(fr.getD i0 none), (fr.getD i1 none), (fr.getD i2 none), (fr.getD i3 none), (fr.getD i4 none), by simp only [set_same], hi⟩ (fun pre x post fr' s' e h => ?_) (fun fr' s' h => ?_)
  · obtain ⟨a0, a1, a2, a3, a4, rfl, h⟩ := h
    exact hs pre x post a0 a1 a2 a3 a4 s' e h
  · obtain ⟨a0, a1, a2, a3, a4, rfl, h⟩ := h
    exact hN a0 a1 a2 a3 a4 s' h
theorem WS_r5 {xs : List PV} {t : T} {it : E} {b : S} (i0 i1 i2 i3 i4 : Nat) (J : List PV → Option FV → Option FV → Option FV → Option FV → Option FV → Sto → Prop) (h0 : EI G it fr st xs) (hi : J [] (fr.getD i0 none) (fr.getD i1 none) (fr.getD i2 none) (fr.getD i3 none) (fr.getD i4 none) st)
    (hs : ∀ pre x post a0 a1 a2 a3 a4 s, xs = pre ++ x :: post → J pre a0 a1 a2 a3 a4 s → ∃ fr1, asg t x (((((fr.set i0 a0).set i1 a1).set i2 a2).set i3 a3).set i4 a4) = some fr1 ∧ WS (exS G b fr1 s) (fun fr' s' => ∃ a0 a1 a2 a3 a4, fr' = (((((fr.set i0 a0).set i1 a1).set i2 a2).set i3 a3).set i4 a4) ∧ J (pre ++ [x]) a0 a1 a2 a3 a4 s') R (fun fr' s' => ∃ a0 a1 a2 a3 a4, fr' = (((((fr.set i0 a0).set i1 a1).set i2 a2).set i3 a3).set i4 a4) ∧ J (pre ++ [x]) a0 a1 a2 a3 a4 s') N X)
    (hN : ∀ a0 a1 a2 a3 a4 s, J xs a0 a1 a2 a3 a4 s → NF (((((fr.set i0 a0).set i1 a1).set i2 a2).set i3 a3).set i4 a4) fun fr' => N fr' s) : WS (exS G (.for t it b) fr st) N R K B X :=
  WS_f5 (e := fun x => x) i0 i1 i2 i3 i4 J (by rw [show (fun x : PV => x) = id from rfl, List.map_id]; exact h0) hi hs hN
/-- a loop that changes 6 slots -/
theorem WS_f6 {e : α → PV} {xs : List α} {t : T} {it : E} {b : S} (i0 i1 i2 i3 i4 i5 : Nat) (J : List α → Option FV → Option FV → Option FV → Option FV → Option FV → Option FV → Sto → Prop) (h0 : EI G it fr st (xs.map e)) (hi : J [] (fr.getD i0 none) (fr.getD i1 none) (fr.getD i2 none) (fr.getD i3 none) (fr.getD i4 none) (fr.getD i5 none) st)
    (hs : ∀ pre x post a0 a1 a2 a3 a4 a5 s, xs = pre ++ x :: post → J pre a0 a1 a2 a3 a4 a5 s → ∃ fr1, asg t (e x) ((((((fr.set i0 a0).set i1 a1).set i2 a2).set i3 a3).set i4 a4).set i5 a5) = some fr1 ∧ WS (exS G b fr1 s) (fun fr' s' => ∃ a0 a1 a2 a3 a4 a5, fr' = ((((((fr.set i0 a0).set i1 a1).set i2 a2).set i3 a3).set i4 a4).set i5 a5) ∧ J (pre ++ [x]) a0 a1 a2 a3 a4 a5 s') R (fun fr' s' => ∃ a0 a1 a2 a3 a4 a5, fr' = ((((((fr.set i0 a0).set i1 a1).set i2 a2).set i3 a3).set i4 a4).set i5 a5) ∧ J (pre ++ [x]) a0 a1 a2 a3 a4 a5 s') N X)
    (hN : ∀ a0 a1 a2 a3 a4 a5 s, J xs a0 a1 a2 a3 a4 a5 s → NF ((((((fr.set i0 a0).set i1 a1).set i2 a2).set i3 a3).set i4 a4).set i5 a5) fun fr' => N fr' s) : WS (exS G (.for t it b) fr st) N R K B X := by
  refine WS_for (fun pre fr' s' => ∃ a0 a1 a2 a3 a4 a5, fr' = ((((((fr.set i0 a0).set i1 a1).set i2 a2).set i3 a3).set i4 a4).set i5 a5) ∧ J pre a0 a1 a2 a3 a4 a5 s') h0 ⟨(fr.getD i0 none), (fr.getD i1 none), (fr.getD i2 none), (fr.getD i3 none), (fr.getD i4 none), (fr.getD i5 none), by simp only [set_same], hi⟩ (fun pre x post fr' s' e h => ?_) (fun fr' s' h => ?_)
  · obtain ⟨a0, a1, a2, a3, a4, a5, rfl, h⟩ := h
    exact hs pre x post a0 a1 a2 a3 a4 a5 s' e h
  · obtain ⟨a0, a1, a2, a3, a4, a5, rfl, h⟩ := h
    exact hN a0 a1 a2 a3 a4 a5 s' h
theorem WS_r6 {xs : List PV} {t : T} {it : E} {b : S} (i0 i1 i2 i3 i4 i5 : Nat) (J : List PV → Option FV → Option FV → Option FV → Option FV → Option FV → Option FV → Sto → Prop) (h0 : EI G it fr st xs) (hi : J [] (fr.getD i0 none) (fr.getD i1 none) (fr.getD i2 none) (fr.getD i3 none) (fr.getD i4 none) (fr.getD i5 none) st)
    (hs : ∀ pre x post a0 a1 a2 a3 a4 a5 s, xs = pre ++ x :: post → J pre a0 a1 a2 a3 a4 a5 s → ∃ fr1, asg t x ((((((fr.set i0 a0).set i1 a1).set i2 a2).set i3 a3).set i4 a4).set i5 a5) = some fr1 ∧ WS (exS G b fr1 s) (fun fr' s' => ∃ a0 a1 a2 a3 a4 a5, fr' = ((((((fr.set i0 a0).set i1 a1).set i2 a2).set i3 a3).set i4 a4).set i5 a5) ∧ J (pre ++ [x]) a0 a1 a2 a3 a4 a5 s') R (fun fr' s' => ∃ a0 a1 a2 a3 a4 a5, fr' = ((((((fr.set i0 a0).set i1 a1).set i2 a2).set i3 a3).set i4 a4).set i5 a5) ∧ J (pre ++ [x]) a0 a1 a2 a3 a4 a5 s') N X)
    (hN : ∀ a0 a1 a2 a3 a4 a5 s, J xs a0 a1 a2 a3 a4 a5 s → NF ((((((fr.set i0 a0).set i1 a1).set i2 a2).set i3 a3).set i4 a4).set i5 a5) fun fr' => N fr' s) : WS (exS G (.for t it b) fr st) N R K B X :=
  WS_f6 (e := fun x => x) i0 i1 i2 i3 i4 i5 J (by rw [show (fun x : PV => x) = id from rfl, List.map_id]; exact h0) hi hs hN
/-- a loop that changes 7 slots -/
theorem WS_f7 {e : α → PV} {xs : List α} {t : T} {it : E} {b : S} (i0 i1 i2 i3 i4 i5 i6 : Nat) (J : List α → Option FV → Option FV → Option FV → Option FV → Option FV → Option FV → Option FV → Sto → Prop) (h0 : EI G it fr st (xs.map e)) (hi : J [] (fr.getD i0 none) (fr.getD i1 none) (fr.getD i2 none) (fr.getD i3 none) (fr.getD i4 none) (fr.getD i5 none) (fr.getD i6 none) st)
    (hs : ∀ pre x post a0 a1 a2 a3 a4 a5 a6 s, xs = pre ++ x :: post → J pre a0 a1 a2 a3 a4 a5 a6 s → ∃ fr1, asg t (e x) (((((((fr.set i0 a0).set i1 a1).set i2 a2).set i3 a3).set i4 a4).set i5 a5).set i6 a6) = some fr1 ∧ WS (exS G b fr1 s) (fun fr' s' => ∃ a0 a1 a2 a3 a4 a5 a6, fr' = (((((((fr.set i0 a0).set i1 a1).set i2 a2).set i3 a3).set i4 a4).set i5 a5).set i6 a6) ∧ J (pre ++ [x]) a0 a1 a2 a3 a4 a5 a6 s') R (fun fr' s' => ∃ a0 a1 a2 a3 a4 a5 a6, fr' = (((((((fr.set i0 a0).set i1 a1).set i2 a2).set i3 a3).set i4 a4).set i5 a5).set i6 a6) ∧ J (pre ++ [x]) a0 a1 a2 a3 a4 a5 a6 s') N X)
    (hN : ∀ a0 a1 a2 a3 a4 a5 a6 s, J xs a0 a1 a2 a3 a4 a5 a6 s → NF (((((((fr.set i0 a0).set i1 a1).set i2 a2).set i3 a3).set i4 a4).set i5 a5).set i6 a6) fun fr' => N fr' s) : WS (exS G (.for t it b) fr st) N R K B X := by
  refine WS_for (fun pre fr' s' => ∃ a0 a1 a2 a3 a4 a5 a6, fr' = (((((((fr.set i0 a0).set i1 a1).set i2 a2).set i3 a3).set i4 a4).set i5 a5).set i6 a6) ∧ J pre a0 a1 a2 a3 a4 a5 a6 s') h0 ⟨(fr.getD i0 none), (fr.getD i1 none), (fr.getD i2 none), (fr.getD i3 none), (fr.getD i4 none), (fr.getD i5 none), (fr.getD i6 none), by simp only [set_same], hi⟩ (fun pre x post fr' s' e h => ?_) (fun fr' s' h => ?_)
  · obtain ⟨a0, a1, a2, a3, a4, a5, a6, rfl, h⟩ := h
    exact hs pre x post a0 a1 a2 a3 a4 a5 a6 s' e h
  · obtain ⟨a0, a1, a2, a3, a4, a5, a6, rfl, h⟩ := h
    exact hN a0 a1 a2 a3 a4 a5 a6 s' h
theorem WS_r7 {xs : List PV} {t : T} {it : E} {b : S} (i0 i1 i2 i3 i4 i5 i6 : Nat) (J : List PV → Option FV → Option FV → Option FV → Option FV → Option FV → Option FV → Option FV → Sto → Prop) (h0 : EI G it fr st xs) (hi : J [] (fr.getD i0 none) (fr.getD i1 none) (fr.getD i2 none) (fr.getD i3 none) (fr.getD i4 none) (fr.getD i5 none) (fr.getD i6 none) st)
    (hs : ∀ pre x post a0 a1 a2 a3 a4 a5 a6 s, xs = pre ++ x :: post → J pre a0 a1 a2 a3 a4 a5 a6 s → ∃ fr1, asg t x (((((((fr.set i0 a0).set i1 a1).set i2 a2).set i3 a3).set i4 a4).set i5 a5).set i6 a6) = some fr1 ∧ WS (exS G b fr1 s) (fun fr' s' => ∃ a0 a1 a2 a3 a4 a5 a6, fr' = (((((((fr.set i0 a0).set i1 a1).set i2 a2).set i3 a3).set i4 a4).set i5 a5).set i6 a6) ∧ J (pre ++ [x]) a0 a1 a2 a3 a4 a5 a6 s') R (fun fr' s' => ∃ a0 a1 a2 a3 a4 a5 a6, fr' = (((((((fr.set i0 a0).set i1 a1).set i2 a2).set i3 a3).set i4 a4).set i5 a5).set i6 a6) ∧ J (pre ++ [x]) a0 a1 a2 a3 a4 a5 a6 s') N X)
    (hN : ∀ a0 a1 a2 a3 a4 a5 a6 s, J xs a0 a1 a2 a3 a4 a5 a6 s → NF (((((((fr.set i0 a0).set i1 a1).set i2 a2).set i3 a3).set i4 a4).set i5 a5).set i6 a6) fun fr' => N fr' s) : WS (exS G (.for t it b) fr st) N R K B X :=
  WS_f7 (e := fun x => x) i0 i1 i2 i3 i4 i5 i6 J (by rw [show (fun x : PV => x) = id from rfl, List.map_id]; exact h0) hi hs hN
/-- a loop that changes 8 slots -/
theorem WS_f8 {e : α → PV} {xs : List α} {t : T} {it : E} {b : S} (i0 i1 i2 i3 i4 i5 i6 i7 : Nat) (J : List α → Option FV → Option FV → Option FV → Option FV → Option FV → Option FV → Option FV → Option FV → Sto → Prop) (h0 : EI G it fr st (xs.map e)) (hi : J [] (fr.getD i0 none) (fr.getD i1 none) (fr.getD i2 none) (fr.getD i3 none) (fr.getD i4 none) (fr.getD i5 none) (fr.getD i6 none) (fr.getD i7 none) st)
    (hs : ∀ pre x post a0 a1 a2 a3 a4 a5 a6 a7 s, xs = pre ++ x :: post → J pre a0 a1 a2 a3 a4 a5 a6 a7 s → ∃ fr1, asg t (e x) ((((((((fr.set i0 a0).set i1 a1).set i2 a2).set i3 a3).set i4 a4).set i5 a5).set i6 a6).set i7 a7) = some fr1 ∧ WS (exS G b fr1 s) (fun fr' s' => ∃ a0 a1 a2 a3 a4 a5 a6 a7, fr' = ((((((((fr.set i0 a0).set i1 a1).set i2 a2).set i3 a3).set i4 a4).set i5 a5).set i6 a6).set i7 a7) ∧ J (pre ++ [x]) a0 a1 a2 a3 a4 a5 a6 a7 s') R (fun fr' s' => ∃ a0 a1 a2 a3 a4 a5 a6 a7, fr' = ((((((((fr.set i0 a0).set i1 a1).set i2 a2).set i3 a3).set i4 a4).set i5 a5).set i6 a6).set i7 a7) ∧ J (pre ++ [x]) a0 a1 a2 a3 a4 a5 a6 a7 s') N X)
    (hN : ∀ a0 a1 a2 a3 a4 a5 a6 a7 s, J xs a0 a1 a2 a3 a4 a5 a6 a7 s → NF ((((((((fr.set i0 a0).set i1 a1).set i2 a2).set i3 a3).set i4 a4).set i5 a5).set i6 a6).set i7 a7) fun fr' => N fr' s) : WS (exS G (.for t it b) fr st) N R K B X := by
  refine WS_for (fun pre fr' s' => ∃ a0 a1 a2 a3 a4 a5 a6 a7, fr' = ((((((((fr.set i0 a0).set i1 a1).set i2 a2).set i3 a3).set i4 a4).set i5 a5).set i6 a6).set i7 a7) ∧ J pre a0 a1 a2 a3 a4 a5 a6 a7 s') h0 ⟨(fr.getD i0 none), (fr.getD i1 none), (fr.getD i2 none), (fr.getD i3 none), (fr.getD i4 none), (fr.getD i5 none), (fr.getD i6 none), (fr.getD i7 none), by simp only [set_same], hi⟩ (fun pre x post fr' s' e h => ?_) (fun fr' s' h => ?_)
  · obtain ⟨a0, a1, a2, a3, a4, a5, a6, a7, rfl, h⟩ := h
    exact hs pre x post a0 a1 a2 a3 a4 a5 a6 a7 s' e h
  · obtain ⟨a0, a1, a2, a3, a4, a5, a6, a7, rfl, h⟩ := h
    exact hN a0 a1 a2 a3 a4 a5 a6 a7 s' h
theorem WS_r8 {xs : List PV} {t : T} {it : E} {b : S} (i0 i1 i2 i3 i4 i5 i6 i7 : Nat) (J : List PV → Option FV → Option FV → Option FV → Option FV → Option FV → Option FV → Option FV → Option FV → Sto → Prop) (h0 : EI G it fr st xs) (hi : J [] (fr.getD i0 none) (fr.getD i1 none) (fr.getD i2 none) (fr.getD i3 none) (fr.getD i4 none) (fr.getD i5 none) (fr.getD i6 none) (fr.getD i7 none) st)
    (hs : ∀ pre x post a0 a1 a2 a3 a4 a5 a6 a7 s, xs = pre ++ x :: post → J pre a0 a1 a2 a3 a4 a5 a6 a7 s → ∃ fr1, asg t x ((((((((fr.set i0 a0).set i1 a1).set i2 a2).set i3 a3).set i4 a4).set i5 a5).set i6 a6).set i7 a7) = some fr1 ∧ WS (exS G b fr1 s) (fun fr' s' => ∃ a0 a1 a2 a3 a4 a5 a6 a7, fr' = ((((((((fr.set i0 a0).set i1 a1).set i2 a2).set i3 a3).set i4 a4).set i5 a5).set i6 a6).set i7 a7) ∧ J (pre ++ [x]) a0 a1 a2 a3 a4 a5 a6 a7 s') R (fun fr' s' => ∃ a0 a1 a2 a3 a4 a5 a6 a7, fr' = ((((((((fr.set i0 a0).set i1 a1).set i2 a2).set i3 a3).set i4 a4).set i5 a5).set i6 a6).set i7 a7) ∧ J (pre ++ [x]) a0 a1 a2 a3 a4 a5 a6 a7 s') N X)
    (hN : ∀ a0 a1 a2 a3 a4 a5 a6 a7 s, J xs a0 a1 a2 a3 a4 a5 a6 a7 s → NF ((((((((fr.set i0 a0).set i1 a1).set i2 a2).set i3 a3).set i4 a4).set i5 a5).set i6 a6).set i7 a7) fun fr' => N fr' s) : WS (exS G (.for t it b) fr st) N R K B X :=
  WS_f8 (e := fun x => x) i0 i1 i2 i3 i4 i5 i6 i7 J (by rw [show (fun x : PV => x) = id from rfl, List.map_id]; exact h0) hi hs hN
/-- a loop that may change all slots behind the first ones -/
theorem WS_tail {e : α → PV} {xs : List α} {t : T} {it : E} {b : S} (hd tl : Frm) (J : List α → Sto → Prop) (h0 : EI G it fr st (xs.map e)) (hf : fr = hd ++ tl) (hi : J [] st)
    (hs : ∀ pre x post ys s, xs = pre ++ x :: post → ys.length = tl.length → J pre s → ∃ fr1, asg t (e x) (hd ++ ys) = some fr1 ∧ WS (exS G b fr1 s) (fun fr' s' => ∃ zs, fr' = hd ++ zs ∧ zs.length = tl.length ∧ J (pre ++ [x]) s') R (fun fr' s' => ∃ zs, fr' = hd ++ zs ∧ zs.length = tl.length ∧ J (pre ++ [x]) s') N X)
    (hN : ∀ ys s, ys.length = tl.length → J xs s → N (hd ++ ys) s) : WS (exS G (.for t it b) fr st) N R K B X := by
  refine WS_for (fun pre fr' s' => ∃ zs, fr' = hd ++ zs ∧ zs.length = tl.length ∧ J pre s') h0 ⟨tl, hf, rfl, hi⟩ (fun pre x post fr' s' e h => ?_) (fun fr' s' h => ?_)
  · obtain ⟨zs, rfl, hl, h⟩ := h
    exact hs pre x post zs s' e hl h
  · obtain ⟨zs, rfl, hl, h⟩ := h
    exact hN zs s' hl h
theorem ln_0 {α : Type} : ∀ {xs : List α}, xs.length = 0 → xs = [] := fun h => List.length_eq_zero_iff.mp h
theorem ln_1 {α : Type} : ∀ {xs : List α}, xs.length = 1 → ∃ a0, xs = [a0]
  | [], h => nomatch h
  | a0 :: t, h => by
    obtain rfl := ln_0 (xs := t) (Nat.succ.inj h)
    exact ⟨a0, rfl⟩
theorem ln_2 {α : Type} : ∀ {xs : List α}, xs.length = 2 → ∃ a0 a1, xs = [a0, a1]
  | [], h => nomatch h
  | a0 :: t, h => by
    obtain ⟨a1, rfl⟩ := ln_1 (xs := t) (Nat.succ.inj h)
    exact ⟨a0, a1, rfl⟩
theorem ln_3 {α : Type} : ∀ {xs : List α}, xs.length = 3 → ∃ a0 a1 a2, xs = [a0, a1, a2]
  | [], h => nomatch h
  | a0 :: t, h => by
    obtain ⟨a1, a2, rfl⟩ := ln_2 (xs := t) (Nat.succ.inj h)
    exact ⟨a0, a1, a2, rfl⟩
theorem ln_4 {α : Type} : ∀ {xs : List α}, xs.length = 4 → ∃ a0 a1 a2 a3, xs = [a0, a1, a2, a3]
  | [], h => nomatch h
  | a0 :: t, h => by
    obtain ⟨a1, a2, a3, rfl⟩ := ln_3 (xs := t) (Nat.succ.inj h)
    exact ⟨a0, a1, a2, a3, rfl⟩
theorem ln_5 {α : Type} : ∀ {xs : List α}, xs.length = 5 → ∃ a0 a1 a2 a3 a4, xs = [a0, a1, a2, a3, a4]
  | [], h => nomatch h
  | a0 :: t, h => by
    obtain ⟨a1, a2, a3, a4, rfl⟩ := ln_4 (xs := t) (Nat.succ.inj h)
    exact ⟨a0, a1, a2, a3, a4, rfl⟩
theorem ln_6 {α : Type} : ∀ {xs : List α}, xs.length = 6 → ∃ a0 a1 a2 a3 a4 a5, xs = [a0, a1, a2, a3, a4, a5]
  | [], h => nomatch h
  | a0 :: t, h => by
    obtain ⟨a1, a2, a3, a4, a5, rfl⟩ := ln_5 (xs := t) (Nat.succ.inj h)
    exact ⟨a0, a1, a2, a3, a4, a5, rfl⟩
theorem ln_7 {α : Type} : ∀ {xs : List α}, xs.length = 7 → ∃ a0 a1 a2 a3 a4 a5 a6, xs = [a0, a1, a2, a3, a4, a5, a6]
  | [], h => nomatch h
  | a0 :: t, h => by
    obtain ⟨a1, a2, a3, a4, a5, a6, rfl⟩ := ln_6 (xs := t) (Nat.succ.inj h)
    exact ⟨a0, a1, a2, a3, a4, a5, a6, rfl⟩
theorem ln_8 {α : Type} : ∀ {xs : List α}, xs.length = 8 → ∃ a0 a1 a2 a3 a4 a5 a6 a7, xs = [a0, a1, a2, a3, a4, a5, a6, a7]
  | [], h => nomatch h
  | a0 :: t, h => by
    obtain ⟨a1, a2, a3, a4, a5, a6, a7, rfl⟩ := ln_7 (xs := t) (Nat.succ.inj h)
    exact ⟨a0, a1, a2, a3, a4, a5, a6, a7, rfl⟩
theorem ln_9 {α : Type} : ∀ {xs : List α}, xs.length = 9 → ∃ a0 a1 a2 a3 a4 a5 a6 a7 a8, xs = [a0, a1, a2, a3, a4, a5, a6, a7, a8]
  | [], h => nomatch h
  | a0 :: t, h => by
    obtain ⟨a1, a2, a3, a4, a5, a6, a7, a8, rfl⟩ := ln_8 (xs := t) (Nat.succ.inj h)
    exact ⟨a0, a1, a2, a3, a4, a5, a6, a7, a8, rfl⟩
theorem ln_10 {α : Type} : ∀ {xs : List α}, xs.length = 10 → ∃ a0 a1 a2 a3 a4 a5 a6 a7 a8 a9, xs = [a0, a1, a2, a3, a4, a5, a6, a7, a8, a9]
  | [], h => nomatch h
  | a0 :: t, h => by
    obtain ⟨a1, a2, a3, a4, a5, a6, a7, a8, a9, rfl⟩ := ln_9 (xs := t) (Nat.succ.inj h)
    exact ⟨a0, a1, a2, a3, a4, a5, a6, a7, a8, a9, rfl⟩
theorem ln_11 {α : Type} : ∀ {xs : List α}, xs.length = 11 → ∃ a0 a1 a2 a3 a4 a5 a6 a7 a8 a9 a10, xs = [a0, a1, a2, a3, a4, a5, a6, a7, a8, a9, a10]
  | [], h => nomatch h
  | a0 :: t, h => by
    obtain ⟨a1, a2, a3, a4, a5, a6, a7, a8, a9, a10, rfl⟩ := ln_10 (xs := t) (Nat.succ.inj h)
    exact ⟨a0, a1, a2, a3, a4, a5, a6, a7, a8, a9, a10, rfl⟩
theorem ln_12 {α : Type} : ∀ {xs : List α}, xs.length = 12 → ∃ a0 a1 a2 a3 a4 a5 a6 a7 a8 a9 a10 a11, xs = [a0, a1, a2, a3, a4, a5, a6, a7, a8, a9, a10, a11]
  | [], h => nomatch h
  | a0 :: t, h => by
    obtain ⟨a1, a2, a3, a4, a5, a6, a7, a8, a9, a10, a11, rfl⟩ := ln_11 (xs := t) (Nat.succ.inj h)
    exact ⟨a0, a1, a2, a3, a4, a5, a6, a7, a8, a9, a10, a11, rfl⟩
theorem ln_13 {α : Type} : ∀ {xs : List α}, xs.length = 13 → ∃ a0 a1 a2 a3 a4 a5 a6 a7 a8 a9 a10 a11 a12, xs = [a0, a1, a2, a3, a4, a5, a6, a7, a8, a9, a10, a11, a12]
  | [], h => nomatch h
  | a0 :: t, h => by
    obtain ⟨a1, a2, a3, a4, a5, a6, a7, a8, a9, a10, a11, a12, rfl⟩ := ln_12 (xs := t) (Nat.succ.inj h)
    exact ⟨a0, a1, a2, a3, a4, a5, a6, a7, a8, a9, a10, a11, a12, rfl⟩
theorem ln_14 {α : Type} : ∀ {xs : List α}, xs.length = 14 → ∃ a0 a1 a2 a3 a4 a5 a6 a7 a8 a9 a10 a11 a12 a13, xs = [a0, a1, a2, a3, a4, a5, a6, a7, a8, a9, a10, a11, a12, a13]
  | [], h => nomatch h
  | a0 :: t, h => by
    obtain ⟨a1, a2, a3, a4, a5, a6, a7, a8, a9, a10, a11, a12, a13, rfl⟩ := ln_13 (xs := t) (Nat.succ.inj h)
    exact ⟨a0, a1, a2, a3, a4, a5, a6, a7, a8, a9, a10, a11, a12, a13, rfl⟩
theorem ln_15 {α : Type} : ∀ {xs : List α}, xs.length = 15 → ∃ a0 a1 a2 a3 a4 a5 a6 a7 a8 a9 a10 a11 a12 a13 a14, xs = [a0, a1, a2, a3, a4, a5, a6, a7, a8, a9, a10, a11, a12, a13, a14]
  | [], h => nomatch h
  | a0 :: t, h => by
    obtain ⟨a1, a2, a3, a4, a5, a6, a7, a8, a9, a10, a11, a12, a13, a14, rfl⟩ := ln_14 (xs := t) (Nat.succ.inj h)
    exact ⟨a0, a1, a2, a3, a4, a5, a6, a7, a8, a9, a10, a11, a12, a13, a14, rfl⟩
theorem ln_16 {α : Type} : ∀ {xs : List α}, xs.length = 16 → ∃ a0 a1 a2 a3 a4 a5 a6 a7 a8 a9 a10 a11 a12 a13 a14 a15, xs = [a0, a1, a2, a3, a4, a5, a6, a7, a8, a9, a10, a11, a12, a13, a14, a15]
  | [], h => nomatch h
  | a0 :: t, h => by
    obtain ⟨a1, a2, a3, a4, a5, a6, a7, a8, a9, a10, a11, a12, a13, a14, a15, rfl⟩ := ln_15 (xs := t) (Nat.succ.inj h)
    exact ⟨a0, a1, a2, a3, a4, a5, a6, a7, a8, a9, a10, a11, a12, a13, a14, a15, rfl⟩
theorem ln_17 {α : Type} : ∀ {xs : List α}, xs.length = 17 → ∃ a0 a1 a2 a3 a4 a5 a6 a7 a8 a9 a10 a11 a12 a13 a14 a15 a16, xs = [a0, a1, a2, a3, a4, a5, a6, a7, a8, a9, a10, a11, a12, a13, a14, a15, a16]
  | [], h => nomatch h
  | a0 :: t, h => by
    obtain ⟨a1, a2, a3, a4, a5, a6, a7, a8, a9, a10, a11, a12, a13, a14, a15, a16, rfl⟩ := ln_16 (xs := t) (Nat.succ.inj h)
    exact ⟨a0, a1, a2, a3, a4, a5, a6, a7, a8, a9, a10, a11, a12, a13, a14, a15, a16, rfl⟩
theorem ln_18 {α : Type} : ∀ {xs : List α}, xs.length = 18 → ∃ a0 a1 a2 a3 a4 a5 a6 a7 a8 a9 a10 a11 a12 a13 a14 a15 a16 a17, xs = [a0, a1, a2, a3, a4, a5, a6, a7, a8, a9, a10, a11, a12, a13, a14, a15, a16, a17]
  | [], h => nomatch h
  | a0 :: t, h => by
    obtain ⟨a1, a2, a3, a4, a5, a6, a7, a8, a9, a10, a11, a12, a13, a14, a15, a16, a17, rfl⟩ := ln_17 (xs := t) (Nat.succ.inj h)
    exact ⟨a0, a1, a2, a3, a4, a5, a6, a7, a8, a9, a10, a11, a12, a13, a14, a15, a16, a17, rfl⟩
theorem ln_19 {α : Type} : ∀ {xs : List α}, xs.length = 19 → ∃ a0 a1 a2 a3 a4 a5 a6 a7 a8 a9 a10 a11 a12 a13 a14 a15 a16 a17 a18, xs = [a0, a1, a2, a3, a4, a5, a6, a7, a8, a9, a10, a11, a12, a13, a14, a15, a16, a17, a18]
  | [], h => nomatch h
  | a0 :: t, h => by
    obtain ⟨a1, a2, a3, a4, a5, a6, a7, a8, a9, a10, a11, a12, a13, a14, a15, a16, a17, a18, rfl⟩ := ln_18 (xs := t) (Nat.succ.inj h)
    exact ⟨a0, a1, a2, a3, a4, a5, a6, a7, a8, a9, a10, a11, a12, a13, a14, a15, a16, a17, a18, rfl⟩
theorem ln_20 {α : Type} : ∀ {xs : List α}, xs.length = 20 → ∃ a0 a1 a2 a3 a4 a5 a6 a7 a8 a9 a10 a11 a12 a13 a14 a15 a16 a17 a18 a19, xs = [a0, a1, a2, a3, a4, a5, a6, a7, a8, a9, a10, a11, a12, a13, a14, a15, a16, a17, a18, a19]
  | [], h => nomatch h
  | a0 :: t, h => by
    obtain ⟨a1, a2, a3, a4, a5, a6, a7, a8, a9, a10, a11, a12, a13, a14, a15, a16, a17, a18, a19, rfl⟩ := ln_19 (xs := t) (Nat.succ.inj h)
    exact ⟨a0, a1, a2, a3, a4, a5, a6, a7, a8, a9, a10, a11, a12, a13, a14, a15, a16, a17, a18, a19, rfl⟩
theorem ln_21 {α : Type} : ∀ {xs : List α}, xs.length = 21 → ∃ a0 a1 a2 a3 a4 a5 a6 a7 a8 a9 a10 a11 a12 a13 a14 a15 a16 a17 a18 a19 a20, xs = [a0, a1, a2, a3, a4, a5, a6, a7, a8, a9, a10, a11, a12, a13, a14, a15, a16, a17, a18, a19, a20]
  | [], h => nomatch h
  | a0 :: t, h => by
    obtain ⟨a1, a2, a3, a4, a5, a6, a7, a8, a9, a10, a11, a12, a13, a14, a15, a16, a17, a18, a19, a20, rfl⟩ := ln_20 (xs := t) (Nat.succ.inj h)
    exact ⟨a0, a1, a2, a3, a4, a5, a6, a7, a8, a9, a10, a11, a12, a13, a14, a15, a16, a17, a18, a19, a20, rfl⟩
theorem ln_22 {α : Type} : ∀ {xs : List α}, xs.length = 22 → ∃ a0 a1 a2 a3 a4 a5 a6 a7 a8 a9 a10 a11 a12 a13 a14 a15 a16 a17 a18 a19 a20 a21, xs = [a0, a1, a2, a3, a4, a5, a6, a7, a8, a9, a10, a11, a12, a13, a14, a15, a16, a17, a18, a19, a20, a21]
  | [], h => nomatch h
  | a0 :: t, h => by
    obtain ⟨a1, a2, a3, a4, a5, a6, a7, a8, a9, a10, a11, a12, a13, a14, a15, a16, a17, a18, a19, a20, a21, rfl⟩ := ln_21 (xs := t) (Nat.succ.inj h)
    exact ⟨a0, a1, a2, a3, a4, a5, a6, a7, a8, a9, a10, a11, a12, a13, a14, a15, a16, a17, a18, a19, a20, a21, rfl⟩
theorem ln_23 {α : Type} : ∀ {xs : List α}, xs.length = 23 → ∃ a0 a1 a2 a3 a4 a5 a6 a7 a8 a9 a10 a11 a12 a13 a14 a15 a16 a17 a18 a19 a20 a21 a22, xs = [a0, a1, a2, a3, a4, a5, a6, a7, a8, a9, a10, a11, a12, a13, a14, a15, a16, a17, a18, a19, a20, a21, a22]
  | [], h => nomatch h
  | a0 :: t, h => by
    obtain ⟨a1, a2, a3, a4, a5, a6, a7, a8, a9, a10, a11, a12, a13, a14, a15, a16, a17, a18, a19, a20, a21, a22, rfl⟩ := ln_22 (xs := t) (Nat.succ.inj h)
    exact ⟨a0, a1, a2, a3, a4, a5, a6, a7, a8, a9, a10, a11, a12, a13, a14, a15, a16, a17, a18, a19, a20, a21, a22, rfl⟩
theorem ln_24 {α : Type} : ∀ {xs : List α}, xs.length = 24 → ∃ a0 a1 a2 a3 a4 a5 a6 a7 a8 a9 a10 a11 a12 a13 a14 a15 a16 a17 a18 a19 a20 a21 a22 a23, xs = [a0, a1, a2, a3, a4, a5, a6, a7, a8, a9, a10, a11, a12, a13, a14, a15, a16, a17, a18, a19, a20, a21, a22, a23]
  | [], h => nomatch h
  | a0 :: t, h => by
    obtain ⟨a1, a2, a3, a4, a5, a6, a7, a8, a9, a10, a11, a12, a13, a14, a15, a16, a17, a18, a19, a20, a21, a22, a23, rfl⟩ := ln_23 (xs := t) (Nat.succ.inj h)
    exact ⟨a0, a1, a2, a3, a4, a5, a6, a7, a8, a9, a10, a11, a12, a13, a14, a15, a16, a17, a18, a19, a20, a21, a22, a23, rfl⟩
theorem ln_25 {α : Type} : ∀ {xs : List α}, xs.length = 25 → ∃ a0 a1 a2 a3 a4 a5 a6 a7 a8 a9 a10 a11 a12 a13 a14 a15 a16 a17 a18 a19 a20 a21 a22 a23 a24, xs = [a0, a1, a2, a3, a4, a5, a6, a7, a8, a9, a10, a11, a12, a13, a14, a15, a16, a17, a18, a19, a20, a21, a22, a23, a24]
  | [], h => nomatch h
  | a0 :: t, h => by
    obtain ⟨a1, a2, a3, a4, a5, a6, a7, a8, a9, a10, a11, a12, a13, a14, a15, a16, a17, a18, a19, a20, a21, a22, a23, a24, rfl⟩ := ln_24 (xs := t) (Nat.succ.inj h)
    exact ⟨a0, a1, a2, a3, a4, a5, a6, a7, a8, a9, a10, a11, a12, a13, a14, a15, a16, a17, a18, a19, a20, a21, a22, a23, a24, rfl⟩
theorem ln_26 {α : Type} : ∀ {xs : List α}, xs.length = 26 → ∃ a0 a1 a2 a3 a4 a5 a6 a7 a8 a9 a10 a11 a12 a13 a14 a15 a16 a17 a18 a19 a20 a21 a22 a23 a24 a25, xs = [a0, a1, a2, a3, a4, a5, a6, a7, a8, a9, a10, a11, a12, a13, a14, a15, a16, a17, a18, a19, a20, a21, a22, a23, a24, a25]
  | [], h => nomatch h
  | a0 :: t, h => by
    obtain ⟨a1, a2, a3, a4, a5, a6, a7, a8, a9, a10, a11, a12, a13, a14, a15, a16, a17, a18, a19, a20, a21, a22, a23, a24, a25, rfl⟩ := ln_25 (xs := t) (Nat.succ.inj h)
    exact ⟨a0, a1, a2, a3, a4, a5, a6, a7, a8, a9, a10, a11, a12, a13, a14, a15, a16, a17, a18, a19, a20, a21, a22, a23, a24, a25, rfl⟩
theorem ln_27 {α : Type} : ∀ {xs : List α}, xs.length = 27 → ∃ a0 a1 a2 a3 a4 a5 a6 a7 a8 a9 a10 a11 a12 a13 a14 a15 a16 a17 a18 a19 a20 a21 a22 a23 a24 a25 a26, xs = [a0, a1, a2, a3, a4, a5, a6, a7, a8, a9, a10, a11, a12, a13, a14, a15, a16, a17, a18, a19, a20, a21, a22, a23, a24, a25, a26]
  | [], h => nomatch h
  | a0 :: t, h => by
    obtain ⟨a1, a2, a3, a4, a5, a6, a7, a8, a9, a10, a11, a12, a13, a14, a15, a16, a17, a18, a19, a20, a21, a22, a23, a24, a25, a26, rfl⟩ := ln_26 (xs := t) (Nat.succ.inj h)
    exact ⟨a0, a1, a2, a3, a4, a5, a6, a7, a8, a9, a10, a11, a12, a13, a14, a15, a16, a17, a18, a19, a20, a21, a22, a23, a24, a25, a26, rfl⟩
theorem ln_28 {α : Type} : ∀ {xs : List α}, xs.length = 28 → ∃ a0 a1 a2 a3 a4 a5 a6 a7 a8 a9 a10 a11 a12 a13 a14 a15 a16 a17 a18 a19 a20 a21 a22 a23 a24 a25 a26 a27, xs = [a0, a1, a2, a3, a4, a5, a6, a7, a8, a9, a10, a11, a12, a13, a14, a15, a16, a17, a18, a19, a20, a21, a22, a23, a24, a25, a26, a27]
  | [], h => nomatch h
  | a0 :: t, h => by
    obtain ⟨a1, a2, a3, a4, a5, a6, a7, a8, a9, a10, a11, a12, a13, a14, a15, a16, a17, a18, a19, a20, a21, a22, a23, a24, a25, a26, a27, rfl⟩ := ln_27 (xs := t) (Nat.succ.inj h)
    exact ⟨a0, a1, a2, a3, a4, a5, a6, a7, a8, a9, a10, a11, a12, a13, a14, a15, a16, a17, a18, a19, a20, a21, a22, a23, a24, a25, a26, a27, rfl⟩
theorem ln_29 {α : Type} : ∀ {xs : List α}, xs.length = 29 → ∃ a0 a1 a2 a3 a4 a5 a6 a7 a8 a9 a10 a11 a12 a13 a14 a15 a16 a17 a18 a19 a20 a21 a22 a23 a24 a25 a26 a27 a28, xs = [a0, a1, a2, a3, a4, a5, a6, a7, a8, a9, a10, a11, a12, a13, a14, a15, a16, a17, a18, a19, a20, a21, a22, a23, a24, a25, a26, a27, a28]
  | [], h => nomatch h
  | a0 :: t, h => by
    obtain ⟨a1, a2, a3, a4, a5, a6, a7, a8, a9, a10, a11, a12, a13, a14, a15, a16, a17, a18, a19, a20, a21, a22, a23, a24, a25, a26, a27, a28, rfl⟩ := ln_28 (xs := t) (Nat.succ.inj h)
    exact ⟨a0, a1, a2, a3, a4, a5, a6, a7, a8, a9, a10, a11, a12, a13, a14, a15, a16, a17, a18, a19, a20, a21, a22, a23, a24, a25, a26, a27, a28, rfl⟩
theorem ln_30 {α : Type} : ∀ {xs : List α}, xs.length = 30 → ∃ a0 a1 a2 a3 a4 a5 a6 a7 a8 a9 a10 a11 a12 a13 a14 a15 a16 a17 a18 a19 a20 a21 a22 a23 a24 a25 a26 a27 a28 a29, xs = [a0, a1, a2, a3, a4, a5, a6, a7, a8, a9, a10, a11, a12, a13, a14, a15, a16, a17, a18, a19, a20, a21, a22, a23, a24, a25, a26, a27, a28, a29]
  | [], h => nomatch h
  | a0 :: t, h => by
    obtain ⟨a1, a2, a3, a4, a5, a6, a7, a8, a9, a10, a11, a12, a13, a14, a15, a16, a17, a18, a19, a20, a21, a22, a23, a24, a25, a26, a27, a28, a29, rfl⟩ := ln_29 (xs := t) (Nat.succ.inj h)
    exact ⟨a0, a1, a2, a3, a4, a5, a6, a7, a8, a9, a10, a11, a12, a13, a14, a15, a16, a17, a18, a19, a20, a21, a22, a23, a24, a25, a26, a27, a28, a29, rfl⟩
/-- a while, by a number that falls -/
theorem whlRun_W {tst : Frm → Sto → Out Bool} {body : Frm → Sto → Res} (I : Nat → Frm → Sto → Prop)
    (hs : ∀ n fr st, I n fr st → WO (tst fr st) (fun b st' => if b = true then ∃ m, m < n ∧ WS (body fr st') (I m) R (I m) N X else N fr st') (fun c p st => X c p fr st)) :
    ∀ {fuel n : Nat} {fr : Frm} {st : Sto}, I n fr st → n < fuel → (∀ m n fr st, I m fr st → m ≤ n → I n fr st) → WS (whlRun tst body fuel fr st) N R K B X
  | 0, n, fr, st, _, hf, _ => absurd hf (by omega)
  | fuel + 1, n, fr, st, h, hf, hm => by
    have h1 := hs n fr st h
    unfold whlRun
    refine WS_res (WO_imp h1 (fun b st1 h2 => ?_) fun _ _ _ h => h)
    cases b with
    | false =>
      rw [if_neg (by decide)] at h2 ⊢
      exact h2
    | true =>
      rw [if_pos rfl] at h2 ⊢
      obtain ⟨m, hn, h2⟩ := h2
      have go : ∀ fr2 st2, I m fr2 st2 → WS (whlRun tst body fuel fr2 st2) N R K B X := fun fr2 st2 h3 => whlRun_W I hs h3 (by omega) hm
      cases hb : body fr st1 with
      | nx fr2 st2 => rw [hb] at h2; exact go _ _ h2
      | ct fr2 st2 => rw [hb] at h2; exact go _ _ h2
      | rt p st2 => rw [hb] at h2; exact h2
      | bk fr2 st2 => rw [hb] at h2; exact h2
      | ex c p fr2 st2 => rw [hb] at h2; exact h2
      | bad => rw [hb] at h2; exact h2.elim
theorem WS_whl {c : E} {b : S} (n : Nat) (I : Nat → Frm → Sto → Prop) (hi : I n fr st) (hf : n < G.fuel) (hm : ∀ m n fr st, I m fr st → m ≤ n → I n fr st)
    (hs : ∀ n fr st, I n fr st → ∃ x k, ED G c fr st x ∧ truF x = some k ∧ (k = true → ∃ m, m < n ∧ WS (exS G b fr st) (I m) R (I m) N X) ∧ (k = false → N fr st)) : WS (exS G (.whl c b) fr st) N R K B X := by
  rw [zexS_whl]
  refine whlRun_W I (fun n fr st h => ?_) hi hf hm
  obtain ⟨x, k, h1, h2, h3, h4⟩ := hs n fr st h
  refine WO_is (evT_ed h1 h2) ?_
  cases k
  · rw [if_neg (by decide)]; exact h4 rfl
  · rw [if_pos rfl]; exact h3 rfl
theorem WS_brk (h : B fr st) : WS (exS G .brk fr st) N R K B X := by rw [zexS_brk]; exact h
theorem WS_cnt (h : K fr st) : WS (exS G .cnt fr st) N R K B X := by rw [zexS_cnt]; exact h
theorem WS_rse {c : Nat} {l : E} (h : WO (evL G l fr st) (fun ps st1 => KA ps (X c .non fr st1)) (fun c p st => X c p fr st)) : WS (exS G (.rse c l) fr st) N R K B X := by
  rw [zexS_rse]
  refine WS_res (WO_imp h (fun p st1 h => ?_) fun _ _ _ h => h)
  rw [if_pos h.2.1]; exact h.2.2
theorem WS_try {b : S} {c i j : Nat} (h : WS (exS G b fr st) N R K B (fun k p fr st => EX G c k i j fr.length (NF ((fr.set j (some (.val (.exc k p)))).set i none) fun fr1 => N fr1 st) (X k p fr st))) : WS (exS G (.try b c i j) fr st) N R K B X := by
  rw [zexS_try]
  cases hb : exS G b fr st with
  | ex k p fr1 st1 =>
    rw [hb] at h
    obtain ⟨l, h1, h2, h3⟩ := h
    unfold tryF
    simp only [h1]
    cases hc : l.contains c with
    | true =>
      obtain ⟨h4, h5, h6⟩ := h2 hc
      rw [if_pos rfl, if_pos ⟨h4, h5⟩]
      exact h6
    | false =>
      rw [if_neg (by decide)]
      exact h3 hc
  | _ => rw [hb] at h; exact h
end
end Rq
set_option Elab.async false
set_option linter.all false
set_option maxRecDepth 100000
set_option maxHeartbeats 4000000
/-! What operators come to, over typed things; the pen by what is left of it. -/
namespace Rq
open PySem PySem.Spec Rm Rp
theorem fits_lit {n : Nat} (h : Nat.ble n 1000 = true) : fits n = true := by
  rw [fits_eq, szl]; have := Nat.le_of_ble_eq_true h; omega
/-- an item of a list, by a whole number -/
def at_ {α : Type} [Inhabited α] (xs : List α) (k : Int) : α := xs.getD k.toNat default
theorem at_get {α : Type} [Inhabited α] {xs : List α} {k : Int} (h : k.toNat < xs.length) : at_ xs k = xs[k.toNat] := by
  unfold at_
  rw [List.getD_eq_getElem?_getD, List.getElem?_eq_getElem h]; rfl
theorem at_mem {α : Type} [Inhabited α] {xs : List α} {k : Int} (h0 : 0 ≤ k) (h : k < xs.length) : at_ xs k ∈ xs := by
  rw [at_get (by omega)]
  exact List.getElem_mem _
theorem idx_map {α : Type} [Inhabited α] {t : Bool} {e : α → PV} {xs : List α} {k : Int} (h0 : 0 ≤ k) (h : k < xs.length) : idxF (.seq t (xs.map e)) (.int k) = some (e (at_ xs k)) := by
  rw [at_get (by omega)]
  exact Rp.at_get t (j := k.toNat) (by omega) (by rw [List.getElem?_map, List.getElem?_eq_getElem (by omega)]; rfl)
theorem idx_raw {t : Bool} {xs : List PV} {k : Int} (h0 : 0 ≤ k) (h : k < xs.length) : idxF (.seq t xs) (.int k) = some (at_ xs k) := by
  rw [at_get (by omega)]
  exact Rp.at_get t (j := k.toNat) (by omega) (List.getElem?_eq_getElem (by omega))
theorem idx_last {α : Type} [Inhabited α] {t : Bool} {e : α → PV} {xs : List α} (h : xs ≠ []) : idxF (.seq t (xs.map e)) (.int (-1)) = some (e (xs.getLast h)) := by
  have hl : 0 < xs.length := List.length_pos_iff.mpr h
  have := @at_get
  show L2.atI (xs.map e) (-1) = _
  unfold L2.atI L2.ixN
  rw [if_neg (by decide), if_pos (by rw [List.length_map]; omega)]
  show (xs.map e)[((-1 : Int) + ((xs.map e).length : Nat)).toNat]? = _
  rw [List.getElem?_map, List.length_map, show ((-1 : Int) + (xs.length : Nat)).toNat = xs.length - 1 by omega, List.getElem?_eq_getElem (by omega), List.getLast_eq_getElem]; rfl
theorem eqv_ints : ∀ l m : List Int, PyData.eqvAll (l.map PyData.int) (m.map PyData.int) = decide (l = m)
  | [], [] => rfl
  | [], b :: m => by simp [PyData.eqvAll]
  | a :: l, [] => by simp [PyData.eqvAll]
  | a :: l, b :: m => by
    simp only [List.map_cons, PyData.eqvAll, eqv_ints l m]
    have : PyData.eqv (.int a) (.int b) = decide (a = b) := by
      have := eqF_int a b
      unfold eqF at this
      rw [if_pos ⟨rfl, rfl⟩] at this
      exact Option.some.inj this
    rw [this]
    by_cases h : a = b <;> by_cases h2 : l = m <;> simp [h, h2]
theorem eqF_ints (t : Bool) (l m : List Int) : eqF (.seq t (l.map PV.int)) (.seq t (m.map PV.int)) = some (decide (l = m)) := by
  unfold eqF
  rw [if_pos ⟨okEq_ints t l, okEq_ints t m⟩]
  cases t <;> simp only [dat, dats_ints, PyData.eqv, eqv_ints]
/-- a slice -/
def cut {α : Type} (lo hi : Option Int) (xs : List α) : List α := (xs.drop (HT.sIx xs.length 0 lo)).take (HT.sIx xs.length xs.length hi - HT.sIx xs.length 0 lo)
theorem cut_len {α : Type} (lo hi : Option Int) (xs : List α) : (cut lo hi xs).length ≤ xs.length := by
  unfold cut
  rw [List.length_take, List.length_drop]
  omega
theorem cut_sub {α : Type} {lo hi : Option Int} {xs : List α} {x : α} (h : x ∈ cut lo hi xs) : x ∈ xs := List.mem_of_mem_drop (List.mem_of_mem_take h)
theorem cut_map {α : Type} {t : Bool} {e : α → PV} {xs : List α} {lo hi : Option Int} : cutF lo hi (.seq t (xs.map e)) = some (.seq t ((cut lo hi xs).map e)) := by
  show some (PV.seq t ((List.drop _ (xs.map e)).take _)) = _
  unfold cut
  rw [List.length_map, List.map_take, List.map_drop]
theorem cut_raw {t : Bool} {xs : List PV} {lo hi : Option Int} : cutF lo hi (.seq t xs) = some (.seq t (cut lo hi xs)) := rfl
theorem six_nat (n : Nat) (d : Nat) (k : Int) (h : 0 ≤ k) : HT.sIx n d (some k) = min k.toNat n := by
  have := HT.sIx_nat n d k.toNat
  rwa [Int.toNat_of_nonneg h] at this
theorem cut_to {α : Type} (xs : List α) (k : Int) (h : 0 ≤ k) : cut none (some k) xs = xs.take k.toNat := by
  unfold cut
  rw [HT.sIx_none, six_nat _ _ _ h, List.drop_zero, Nat.sub_zero]
  by_cases hl : k.toNat ≤ xs.length
  · rw [Nat.min_eq_left hl]
  · rw [Nat.min_eq_right (by omega), List.take_length, List.take_of_length_le (by omega)]
theorem cut_from {α : Type} (xs : List α) (k : Int) (h : 0 ≤ k) : cut (some k) none xs = xs.drop k.toNat := by
  unfold cut
  rw [HT.sIx_none, six_nat _ _ _ h]
  by_cases hl : k.toNat ≤ xs.length
  · rw [Nat.min_eq_left hl, List.take_of_length_le (by rw [List.length_drop]; omega)]
  · rw [Nat.min_eq_right (by omega), List.drop_length, List.drop_eq_nil_of_le (by omega)]; simp
theorem cut_mid {α : Type} (xs : List α) (j k : Int) (h : 0 ≤ j) (h2 : 0 ≤ k) : cut (some j) (some k) xs = (xs.drop j.toNat).take (k.toNat - j.toNat) := by
  unfold cut
  rw [six_nat _ _ _ h, six_nat _ _ _ h2]
  by_cases hl : j.toNat ≤ xs.length
  · by_cases hk : k.toNat ≤ xs.length
    · rw [Nat.min_eq_left hl, Nat.min_eq_left hk]
    · rw [Nat.min_eq_left hl, Nat.min_eq_right (by omega), List.take_of_length_le (by rw [List.length_drop]; omega), List.take_of_length_le (by rw [List.length_drop]; omega)]
  · rw [show min j.toNat xs.length = xs.length by omega, List.drop_length, List.drop_eq_nil_of_le (by omega)]; simp
theorem cut_23 {t : Bool} {a b c : PV} : cutF none (some 2) (.seq t [a, b, c]) = some (.seq t [a, b]) := rfl
theorem eq_two {t : Bool} {a b c d : Int} : cmpF .eq (.seq t [.int a, .int b]) (.seq t [.int c, .int d]) = some (decide (a = c ∧ b = d)) := by
  have := eqF_ints t [a, b] [c, d]
  rw [show cmpF .eq (.seq t [.int a, .int b]) (.seq t [.int c, .int d]) = eqF (.seq t ([a, b].map .int)) (.seq t ([c, d].map .int)) from rfl, this]
  simp
theorem ne_two {t : Bool} {a b c d : Int} : cmpF .ne (.seq t [.int a, .int b]) (.seq t [.int c, .int d]) = some (!decide (a = c ∧ b = d)) := by
  show (cmpF .eq (.seq t [.int a, .int b]) (.seq t [.int c, .int d])).map not = _
  rw [eq_two]; rfl
theorem add_seq {t : Bool} {xs ys : List PV} (h : xs.length + ys.length ≤ 16777216) : binF .add (.seq t xs) (.seq t ys) = some (.seq t (xs ++ ys)) := by
  show (if t = t ∧ fits (xs.length + ys.length) = true then some (PV.seq t (xs ++ ys)) else none) = _
  rw [if_pos ⟨rfl, by rw [fits_eq, szl]; exact h⟩]
theorem add_map {α : Type} {t : Bool} {e : α → PV} {xs ys : List α} (h : xs.length + ys.length ≤ 16777216) : binF .add (.seq t (xs.map e)) (.seq t (ys.map e)) = some (.seq t ((xs ++ ys).map e)) := by
  rw [List.map_append]
  exact add_seq (by rw [List.length_map, List.length_map]; exact h)
theorem rep_one {t : Bool} {x : PV} {k : Int} (h0 : k ≤ 16777216) (h1 : -(2 ^ 63) ≤ k) : binF .mul (.seq t [x]) (.int k) = some (.seq t (List.replicate k.toNat x)) := by
  show (if small k = true ∧ k < 2 ^ 63 ∧ -(2 ^ 63) ≤ k ∧ fits ([x].length * k.toNat) = true then some (PV.seq t (List.replicate k.toNat [x]).flatten) else none) = _
  rw [if_pos ⟨by simp [small]; omega, by omega, h1, by rw [fits_eq, szl]; simp; omega⟩]
  congr 2
  induction k.toNat with
  | zero => rfl
  | succ n ih => rw [List.replicate_succ, List.replicate_succ, List.flatten_cons, ih]; rfl
theorem sub_int {i j : Int} : binF .sub (.int i) (.int j) = some (.int (i - j)) := rfl
theorem add_int {i j : Int} : binF .add (.int i) (.int j) = some (.int (i + j)) := rfl
theorem add_bl {i : Int} {b : Bool} : binF .add (.int i) (.bl b) = some (.int (i + if b then 1 else 0)) := rfl
theorem mul_int {i j : Int} (h : small i = true ∨ small j = true) : binF .mul (.int i) (.int j) = some (.int (i * j)) := if_pos h
theorem mod_int {i j : Int} (h : j ≠ 0) : binF .mod (.int i) (.int j) = some (.int (i.fmod j)) := if_pos h
theorem div_int {i j : Int} (h : j ≠ 0) (h2 : j.natAbs < 1073741824) : binF .fdiv (.int i) (.int j) = some (.int (i.fdiv j)) := if_pos ⟨h, h2⟩
theorem sml {i : Int} (h : -(2 ^ 64) < i) (h2 : i < 2 ^ 64) : small i = true := by
  simp only [small, decide_eq_true_eq]; exact ⟨h, h2⟩
theorem lt_int {i j : Int} : cmpF .lt (.int i) (.int j) = some (decide (i < j)) := rfl
theorem le_int {i j : Int} : cmpF .le (.int i) (.int j) = some (decide (i ≤ j)) := rfl
theorem gt_int {i j : Int} : cmpF .gt (.int i) (.int j) = some (decide (j < i)) := rfl
theorem ge_int {i j : Int} : cmpF .ge (.int i) (.int j) = some (decide (j ≤ i)) := rfl
theorem eq_int {i j : Int} : cmpF .eq (.int i) (.int j) = some (decide (i = j)) := eqF_int i j
theorem ne_int {i j : Int} : cmpF .ne (.int i) (.int j) = some (!decide (i = j)) := by
  show (eqF (.int i) (.int j)).map not = _
  rw [eqF_int]; rfl
theorem len_map {α : Type} {t : Bool} {e : α → PV} {xs : List α} : bltF .len [.seq t (xs.map e)] = some (.int xs.length) := by
  show some (PV.int ((xs.map e).length : Nat)) = _
  rw [List.length_map]
theorem intL_map {α : Type} (f : α → Int) : ∀ l : List α, intL (l.map fun x => PV.int (f x)) = some (l.map f)
  | [] => rfl
  | x :: l => by rw [List.map_cons]; simp only [intL, intL_map f l]; rfl
theorem sum_map {α : Type} {t : Bool} {f : α → Int} {xs : List α} : bltF .sum [.seq t (xs.map fun x => .int (f x))] = some (.int (xs.map f).sum) := by
  show (intL _).map _ = _
  rw [intL_map]; rfl
theorem sum_ints {t : Bool} {xs : List Int} : bltF .sum [.seq t (xs.map .int)] = some (.int xs.sum) := by
  have := sum_map (t := t) (f := fun x => x) (xs := xs)
  rwa [List.map_id'] at this
theorem all_map {α : Type} {f : α → Bool} {xs : List α} : bltF .all [.seq false (xs.map fun x => .bl (f x))] = some (.bl (xs.all f)) := by
  show (boolL _).map _ = _
  rw [boolL_map, Option.map_some]
  congr 2
  induction xs with
  | nil => rfl
  | cons x xs ih => rw [List.map_cons, List.all_cons, List.all_cons, ih]; rfl
theorem any_map {α : Type} {f : α → Bool} {xs : List α} : bltF .any [.seq false (xs.map fun x => .bl (f x))] = some (.bl (xs.any f)) := by
  show (boolL _).map _ = _
  rw [boolL_map, Option.map_some]
  congr 2
  induction xs with
  | nil => rfl
  | cons x xs ih => rw [List.map_cons, List.any_cons, List.any_cons, ih]; rfl
theorem keep_map {α : Type} {e : α → PV} {xs : List α} (h : ∀ x ∈ xs, keep (e x) = true) : keepAll (xs.map e) = true := by
  unfold keepAll
  rw [List.all_eq_true]
  intro y hy
  obtain ⟨x, hx, rfl⟩ := List.mem_map.mp hy
  exact h x hx
/-- so many takes are left -/
def Pen (n : Nat) (st : Sto) : Prop := ∃ (cs : List Int) (a z : Int), st = pen cs a z ∧ 0 ≤ a ∧ a + n ≤ 90000
theorem Pen.le {n m : Nat} {st : Sto} (h : Pen n st) (l : m ≤ n) : Pen m st := by
  obtain ⟨cs, a, z, rfl, h1, h2⟩ := h
  exact ⟨cs, a, z, rfl, h1, by omega⟩
abbrev TakeC (G : Sig) (f : Nat) : Prop := ∀ {n : Nat} {st : Sto} {m : Int} {A : PV → Sto → Prop} {X : Nat → PV → Sto → Prop}, Pen n st → 1 ≤ n → 1 ≤ m → m < 1073741824 → (∀ k st', Pen (n - 1) st' → 0 ≤ k → k < m → A (.int k) st') → WO (G.call f [.ref 0, .int m] st) A X
abbrev OneC (G : Sig) (f : Nat) : Prop := ∀ {n : Nat} {st : Sto} {xs : List PV} {A : PV → Sto → Prop} {X : Nat → PV → Sto → Prop}, Pen n st → 1 ≤ n → xs ≠ [] → xs.length < 1000000 → keepAll xs = true → (∀ p st', Pen (n - 1) st' → p ∈ xs → A p st') → WO (G.call f [.ref 0, .seq false xs] st) A X
abbrev AnewC (G : Sig) (f : Nat) : Prop := ∀ {n : Nat} {st : Sto} {A : PV → Sto → Prop} {X : Nat → PV → Sto → Prop}, Pen n st → (∀ st', Pen n st' → A (.ref 0) st') → WO (G.call f [.ref 0] st) A X
theorem take_c {G : Sig} {f : Nat} (h : TakeOk G f) : TakeC G f := fun hp hn h1 h2 k => by
  obtain ⟨cs, a, z, rfl, h3, h4⟩ := hp
  obtain ⟨r, a', v, e, b0, b1, b2, b3⟩ := h cs a z _ h3 (by omega) h1 h2
  exact WO_is e (k _ _ ⟨cs, a', v, rfl, by omega, by omega⟩ b0 b1)
theorem one_c {G : Sig} {f : Nat} (h : OneOk G f) : OneC G f := fun hp hn h1 h2 hk k => by
  obtain ⟨cs, a, z, rfl, h3, h4⟩ := hp
  obtain ⟨r, a', v, e, b0, b1, b2⟩ := h cs a z _ h3 (by omega) h1 h2 hk
  exact WO_is e (k _ _ ⟨cs, a', v, rfl, by omega, by omega⟩ b0)
theorem anew_c {G : Sig} {f : Nat} (h : ∀ cs a z, G.call f [.ref 0] (pen cs a z) = .ok (.ref 0) (pen cs a 0)) : AnewC G f := fun hp k => by
  obtain ⟨cs, a, z, rfl, h3, h4⟩ := hp
  exact WO_is (h cs a z) (k _ ⟨cs, a, 0, rfl, h3, h4⟩)
end Rq
set_option Elab.async false
set_option linter.all false
set_option maxRecDepth 100000
set_option maxHeartbeats 4000000
/-! Matrices, typed: flip, product, plus, times. -/
namespace Rq
open PySem PySem.Spec Rm Rp
local macro_rules | `(tactic| fail "nf") => `(tactic| ((try simp only [wipeF, List.set_cons_succ, List.set_cons_zero, List.cons_append, List.nil_append]); exact rfl))
local macro_rules | `(tactic| fail "as") => `(tactic| focus (first
  | (with_reducible refine' asg_nm ?a ?b); (case a => exact of_decide_eq_true rfl); (case b => fail "nf")
  | with_reducible exact asgL_nil
  | (with_reducible refine' asgL_cons ?a ?b); (case a => fail "as"); (case b => fail "as")
  | (with_reducible refine' asg_tp ?a); (case a => fail "as")
  | (apply asg_tp); fail "as"))
local macro_rules | `(tactic| fail "side") => `(tactic| first
  | with_reducible assumption
  | omega
  | exact rfl
  | assumption
  | (simp only [mem_irg, List.length_map, irg_len] at *; first | omega | (simp [*]; done) | (simp [*]; omega) | grind)
  | decide
  | grind)
local macro_rules | `(tactic| fail "keep") => `(tactic| first
  | with_reducible assumption
  | exact rfl
  | (exact keep_dat (by with_reducible assumption))
  | (exact keep_pl (by with_reducible assumption))
  | (simp [keepAll, *]; done))
local macro_rules | `(tactic| fail "op") => `(tactic| first
  | with_reducible exact sub_int
  | with_reducible exact add_int
  | with_reducible exact eq_int
  | with_reducible exact ne_int
  | with_reducible exact lt_int
  | with_reducible exact le_int
  | with_reducible exact gt_int
  | with_reducible exact ge_int
  | with_reducible exact sum_map
  | with_reducible exact sum_ints
  | with_reducible exact all_map
  | with_reducible exact any_map
  | with_reducible exact len_map
  | with_reducible exact eq_two
  | with_reducible exact ne_two
  | with_reducible exact cut_23
  | with_reducible exact idx0
  | with_reducible exact idx1
  | with_reducible exact idx2
  | (with_reducible refine' mul_int ?a); (case a => (first | left; fail "sml" | right; fail "sml"))
  | (with_reducible refine' mod_int ?a); (case a => fail "side")
  | (with_reducible refine' div_int ?a ?b); (case a => fail "side"); (case b => fail "side")
  | (with_reducible refine' idx_map ?a ?b); (case a => fail "side"); (case b => fail "side")
  | (with_reducible refine' add_map ?a); (case a => fail "side")
  | (with_reducible refine' add_seq ?a); (case a => fail "side")
  | (with_reducible refine' rep_one ?a ?b); (case a => fail "side"); (case b => fail "side")
  | with_reducible assumption
  | with_reducible exact cut_map
  | with_reducible exact cut_raw
  | exact rfl
  | (with_reducible refine' idx_raw ?a ?b); (case a => fail "side"); (case b => fail "side")
  | (simp only [isiAny, isiF, *]; exact rfl))
local macro_rules | `(tactic| fail "sml") => `(tactic| (first | exact rfl | (refine sml ?_ ?_ <;> fail "side")))
local macro_rules | `(tactic| fail "ev") => `(tactic| focus (first
  | (with_reducible refine' EV_var ?a); (case a => exact rfl)
  | with_reducible exact EV_cst
  | (with_reducible refine' EV_loc ?a); (case a => exact rfl)
  | (with_reducible refine' EV_glb ?a); (case a => with_reducible assumption)
  | (with_reducible refine' EV_neg ?a); (case a => fail "ev")
  | (with_reducible refine' EV_not ?a ?b); (case a => fail "ed"); (case b => fail "op")
  | (with_reducible refine' EV_bin ?a ?b ?c); (case a => fail "ed"); (case b => fail "ed"); (case c => fail "op")
  | (with_reducible refine' EV_cmp ?a ?b ?c); (case a => fail "ed"); (case b => fail "ed"); (case c => fail "op")
  | (with_reducible refine' EV_chn ?a ?b ?c ?d ?e); (case a => fail "ed"); (case b => fail "ed"); (case c => fail "op"); (case d => fail "ed"); (case e => fail "op")
  | (with_reducible refine' EV_and ?a); (case a => fail "ea")
  | (with_reducible refine' EV_or ?a); (case a => fail "er")
  | (with_reducible refine' EV_iteT ?a ?b ?c); (case a => fail "ed"); (case b => (first | exact rfl | exact congrArg some (by with_reducible assumption))); (case c => fail "ev")
  | (with_reducible refine' EV_iteF ?a ?b ?c); (case a => fail "ed"); (case b => (first | exact rfl | exact congrArg some (by with_reducible assumption))); (case c => fail "ev")
  | (with_reducible refine' EV_ite ?a ?b ?c ?d); (case a => fail "ed"); (case b => fail "op"); (case c => intro _; fail "ev"); (case d => intro _; fail "ev")
  | (with_reducible refine' EV_tup ?a ?b ?c); (case a => fail "el"); (case b => fail "keep"); (case c => exact fits_lit rfl)
  | (with_reducible refine' EV_lst ?a ?b ?c); (case a => fail "el"); (case b => fail "keep"); (case c => exact fits_lit rfl)
  | (with_reducible refine' EV_sub ?a ?b ?c); (case a => fail "ed"); (case b => fail "ev"); (case c => fail "op")
  | (with_reducible refine' EV_slc ?a ?b ?c ?d); (case a => fail "ed"); (case b => fail "eo"); (case c => fail "eo"); (case d => fail "op")
  | (with_reducible refine' EV_rev ?a ?b); (case a => fail "ed"); (case b => fail "op")
  | (with_reducible refine' EV_call ?a ?b ?c); (case a => fail "el"); (case b => fail "keep"); (case c => fail "call")
  | (with_reducible refine' EV_blt ?a ?b); (case a => fail "edl"); (case b => fail "op")
  | (with_reducible refine' EV_isi ?a ?b); (case a => fail "ed"); (case b => fail "op")
  | (with_reducible refine' EV_idx ?a ?b ?c); (case a => fail "ed"); (case b => fail "ed"); (case c => fail "op")
  | (with_reducible refine' EV_cnt ?a ?b ?c); (case a => fail "ed"); (case b => fail "ed"); (case c => fail "op")
  | (with_reducible refine' EV_comp ?a ?b ?c ?d); (case a => fail "ei"); (case b => intro _ _; fail "as"); (case c => intro _ _; fail "ev"); (case d => intro _ _; fail "keep")
  | (with_reducible refine' EV_compR ?a ?b ?c ?d); (case a => fail "ei"); (case b => intro _ _; fail "as"); (case c => intro _ _; fail "ev"); (case d => intro _ _; fail "keep")
  | (with_reducible refine' EV_compF ?a ?b ?c ?d ?e ?f ?g); (case a => fail "ei"); (case b => intro _ _; fail "as"); (case c => intro _ _; fail "ed"); (case d => intro _ _; fail "op"); (case e => intro _ _ _; fail "ev"); (case f => intro _ _ _; fail "keep"); (case g => intro _; contradiction)
  | (with_reducible refine' EV_compFR ?a ?b ?c ?d ?e ?f ?g); (case a => fail "ei"); (case b => intro _ _; fail "as"); (case c => intro _ _; fail "ed"); (case d => intro _ _; fail "op"); (case e => intro _ _ _; fail "ev"); (case f => intro _ _ _; fail "keep"); (case g => intro _; contradiction)
  | (with_reducible refine' EV_compU ?a ?b ?c); (case a => fail "eu"); (case b => (fail "nf")); (case c => fail "cu")
  | (with_reducible refine' EV_comp2 ?a ?b ?c ?d ?e ?f ?g); (case a => fail "ei"); (case b => intro _ _; fail "as"); (case c => intro _ _; fail "ei"); (case d => intro _ _ _ _; fail "as"); (case e => intro _ _ _ _; fail "ev"); (case f => intro _ _ _ _; fail "keep"); (case g => fail "side")))
local macro_rules | `(tactic| fail "eu") => `(tactic| focus (first
  | (with_reducible refine' EI_ER ?a ?b ?c); (case a => fail "ev"); (case b => exact rfl); (case c => (simp only [enumF]; exact rfl))
  | (with_reducible refine' EI_S ?a ?b); (case a => fail "ev"); (case b => exact rfl)
  | with_reducible exact EI_Rl1
  | with_reducible exact EI_Rl2
  | with_reducible exact EI_Rl3
  | with_reducible exact EI_Rl4
  | with_reducible exact EI_Rl5
  | with_reducible exact EI_Rl6))
local macro_rules | `(tactic| fail "cu") => `(tactic| focus (first
  | with_reducible exact CU_nil
  | (with_reducible refine' CU_all ?a ?b ?c ?d); (case a => fail "as"); (case b => fail "ev"); (case c => fail "keep"); (case d => fail "cu")
  | (with_reducible refine' CU_yes ?a ?b ?c ?d ?e ?f ?g); (case a => fail "as"); (case b => fail "ed"); (case c => (first | exact rfl | (simp [truF, *]; done))); (case d => (intro _; contradiction)); (case e => fail "ev"); (case f => fail "keep"); (case g => fail "cu")
  | (with_reducible refine' CU_no ?a ?b ?c ?d ?e); (case a => fail "as"); (case b => fail "ed"); (case c => (first | exact rfl | (simp [truF, *]; done))); (case d => (intro _; contradiction)); (case e => fail "cu")))
local macro_rules | `(tactic| fail "ed") => `(tactic| focus (first
  | (with_reducible refine' ED_own ?a); (case a => exact rfl)
  | (with_reducible refine' ED_ref ?a ?b); (case a => exact rfl); (case b => exact rfl)
  | (with_reducible refine' ED_ev ?a ?b); (case a => fail "ev"); (case b => (first | with_reducible assumption | exact rfl | exact flat_dat (by with_reducible assumption) | exact flat_pl (by with_reducible assumption)))))
local macro_rules | `(tactic| fail "ea") => `(tactic| focus (first
  | (with_reducible refine' EA_one ?a); (case a => fail "ev")
  | (with_reducible refine' EA_F ?a ?b); (case a => fail "ev"); (case b => (first | exact rfl | with_reducible assumption))
  | (with_reducible refine' EA_cons ?a ?b); (case a => fail "ev"); (case b => intro _; fail "ea")))
local macro_rules | `(tactic| fail "er") => `(tactic| focus (first
  | (with_reducible refine' ER_one ?a); (case a => fail "ev")
  | (with_reducible refine' ER_T ?a ?b); (case a => fail "ev"); (case b => (first | exact rfl | with_reducible assumption))
  | (with_reducible refine' ER_cons ?a ?b); (case a => fail "ev"); (case b => intro _; fail "er")))
local macro_rules | `(tactic| fail "el") => `(tactic| focus (first
  | with_reducible exact EL_nn
  | (with_reducible refine' EL_cons ?a ?b); (case a => fail "ev"); (case b => fail "el")
  | (with_reducible refine' EL_nc ?a ?b); (case a => fail "ev"); (case b => fail "el")))
local macro_rules | `(tactic| fail "edl") => `(tactic| focus (first
  | with_reducible exact EDL_nil
  | (with_reducible refine' EDL_cons ?a ?b); (case a => fail "ed"); (case b => fail "edl")))
local macro_rules | `(tactic| fail "eo") => `(tactic| focus (first
  | with_reducible exact EO_nil
  | (with_reducible refine' EO_ev ?a); (case a => fail "ev")))
local macro_rules | `(tactic| fail "ei") => `(tactic| focus (first
  | (with_reducible refine' EI_R1 ?a ?b ?c); (case a => fail "ev"); (case b => fail "side"); (case c => fail "side")
  | (with_reducible refine' EI_R2 ?a ?b ?c ?d ?e ?f ?g); (case a => fail "ev"); (case b => fail "ev"); (case c => fail "side"); (case d => fail "side"); (case e => fail "side"); (case f => fail "side"); (case g => fail "side")
  | (with_reducible refine' EI_E ?a ?b); (case a => fail "ev"); (case b => exact rfl)
  | (with_reducible refine' EI_Z ?a ?b ?c ?d); (case a => fail "ev"); (case b => fail "ev"); (case c => exact rfl); (case d => exact rfl)
  | (with_reducible refine' EI_ZS ?a ?b ?c ?d ?e); (case a => fail "ev"); (case b => fail "ev"); (case c => exact rfl); (case d => exact rfl); (case e => fail "side")
  | (with_reducible refine' EI_S ?a ?b); (case a => fail "ev"); (case b => exact rfl)))
local macro_rules | `(tactic| fail "call") => `(tactic| (apply_assumption (exfalso := false) <;> fail "side"))
local macro_rules | `(tactic| fail "wo") => `(tactic| first
  | (with_reducible refine' WO_ev ?a ?_); (case a => fail "ev")
  | (with_reducible refine' WO_call ?a ?b ?_); (case a => fail "el"); (case b => fail "keep")
  | with_reducible refine' WO_callG ?_
  | with_reducible refine' WO_nil ?_
  | (with_reducible refine' WO_elL ?a ?_); (case a => fail "el")
  | (with_reducible refine' WO_iteT ?a ?b ?_); (case a => fail "ed"); (case b => (first | exact rfl | exact congrArg some (by with_reducible assumption)))
  | (with_reducible refine' WO_iteF ?a ?b ?_); (case a => fail "ed"); (case b => (first | exact rfl | exact congrArg some (by with_reducible assumption)))
  | with_reducible refine' WO_cons ?_
  | with_reducible refine' WO_tup ?_
  | with_reducible refine' WO_lst ?_
  | with_reducible refine' WO_bin ?_
  | with_reducible refine' WO_cmp ?_
  | with_reducible refine' WO_not ?_
  | with_reducible refine' WO_sub ?_
  | with_reducible refine' WO_blt ?_
  | with_reducible refine' WO_and ?_
  | with_reducible refine' WO_or ?_
  | with_reducible refine' WO_Acons ?_
  | with_reducible refine' WO_Rcons ?_
  | with_reducible refine' WO_Anil ?_
  | with_reducible refine' WO_Rnil ?_
  | (with_reducible refine' WO_of ?a ?_); (case a => fail "op"))
local macro_rules | `(tactic| fail "ws") => `(tactic| first
  | with_reducible refine' WS_nop ?_
  | with_reducible refine' WS_doc ?_
  | with_reducible refine' WS_seq ?_
  | (with_reducible refine' WS_frz ?a ?_); (case a => exact rfl)
  | with_reducible refine' WS_set ?_
  | (with_reducible refine' WS_setF ?a ?b ?_); (case a => fail "keep"); (case b => exact of_decide_eq_true rfl)
  | with_reducible refine' WS_own ?_
  | (with_reducible refine' WS_ownF ?a ?_); (case a => exact of_decide_eq_true rfl)
  | with_reducible refine' WS_tgt ?_
  | with_reducible refine' WS_par ?_
  | with_reducible refine' WS_par3 ?_
  | (with_reducible refine' WS_aug ?a ?_); (case a => exact rfl)
  | (with_reducible refine' WS_app ?a ?_); (case a => exact rfl)
  | (with_reducible refine' WS_sto ?a ?_); (case a => exact rfl)
  | (with_reducible refine' WS_swp ?a ?_); (case a => exact rfl)
  | (with_reducible refine' WS_ins ?a ?_); (case a => exact rfl)
  | with_reducible refine' WS_xpr ?_
  | with_reducible refine' WS_ret ?_
  | with_reducible refine' WS_retN ?_
  | with_reducible refine' WS_retF ?_
  | with_reducible refine' WS_brk ?_
  | with_reducible refine' WS_cnt ?_
  | with_reducible refine' WS_rse ?_
  | with_reducible refine' WS_try ?_
  | (with_reducible refine' WS_iteT ?a ?b ?_); (case a => fail "ed"); (case b => (first | exact rfl | exact congrArg some (by with_reducible assumption)))
  | (with_reducible refine' WS_iteF ?a ?b ?_); (case a => fail "ed"); (case b => (first | exact rfl | exact congrArg some (by with_reducible assumption)))
  | fail "wo")
local macro_rules | `(tactic| fail "mk") => `(tactic| first
  | (with_reducible refine' EX_in ?a ?b ?c ?d ?_); (case a => (first | with_reducible assumption | exact rfl)); (case b => (first | exact rfl | (simp; done))); (case c => exact of_decide_eq_true rfl); (case d => exact rfl)
  | (with_reducible refine' KP_mk ?a ?_); (case a => fail "keep")
  | (with_reducible refine' NF_mk ?a ?_); (case a => fail "nf")
  | (with_reducible refine' AS_mk ?a ?_); (case a => fail "as")
  | (with_reducible refine' KA_mk ?a ?b ?_); (case a => fail "keep"); (case b => exact rfl)
  | with_reducible refine' KL_0 ?_
  | (with_reducible refine' KL_1 ?a ?_); (case a => fail "keep")
  | (with_reducible refine' KL_2 ?a ?_); (case a => fail "keep")
  | (with_reducible refine' KL_3 ?a ?_); (case a => fail "keep")
  | (with_reducible refine' KL_4 ?a ?_); (case a => fail "keep")
  | (with_reducible refine' KL_5 ?a ?_); (case a => fail "keep")
  | (with_reducible refine' L3_mk ?a ?b ?c ?_); (case a => exact of_decide_eq_true rfl); (case b => exact of_decide_eq_true rfl); (case c => exact of_decide_eq_true rfl)
  | (with_reducible refine' L2_mk ?a ?b ?_); (case a => exact of_decide_eq_true rfl); (case b => exact of_decide_eq_true rfl)
  | (with_reducible refine' OF_mk ?a ?_); (case a => fail "op")
  | (with_reducible refine' SZ_mk ?a ?_); (case a => fail "side"))
local macro_rules | `(tactic| fail "if") => `(tactic| first
  | (with_reducible refine' WS_ite ?a ?b ?_ ?_); (case a => fail "ed"); (case b => fail "op")
  | (with_reducible refine' WO_ifE ?a ?b ?_ ?_); (case a => fail "ed"); (case b => fail "op")
  | with_reducible refine' WS_iteG ?_
  | with_reducible refine' WO_ite ?_)
local macro_rules | `(tactic| fail "go") => `(tactic| repeat (first | fail "ws" | fail "mk"))
local macro_rules | `(tactic| fail "run") => `(tactic| (apply WO_run; exact rfl; (first | (simp only [startF, List.map_cons, List.map_nil, List.cons_append, List.nil_append, List.append_nil, List.length_cons, List.length_nil, Nat.reduceAdd, Nat.reduceSub, List.reduceReplicate]; done) | (simp only [startF, List.map_cons, List.map_nil, List.cons_append, List.nil_append, List.append_nil, List.length_cons, List.length_nil, Nat.reduceAdd, Nat.reduceSub, List.reduceReplicate]; exact rfl)); fail "go"))
abbrev va (p : PV) : Option FV := some (.val p)
abbrev ow (xs : List PV) : Option FV := some (.own xs)
abbrev iT (r : List Int) : PV := .seq true (r.map .int)
abbrev mat (r c : Int) (M : List (List Int)) : PV := .seq true [.int r, .int c, .seq true (M.map iT)]
/-- a matrix by p -/
structure Mx (p r c : Int) (M : List (List Int)) : Prop where
  r0 : 0 ≤ r
  r1 : r ≤ 2000
  c0 : 0 ≤ c
  c1 : c ≤ 2000
  len : (M.length : Int) = r
  wid : ∀ row ∈ M, (row.length : Int) = c
  rng : ∀ row ∈ M, ∀ a ∈ row, 0 ≤ a ∧ a < p
def flipM (c : Int) (M : List (List Int)) : List (List Int) := (irg 0 c).map fun k => M.map fun row => at_ row k
def dot (p : Int) (x y : List Int) : Int := ((x.zip y).map fun (q : Int × Int) => q.1 * q.2).sum.fmod p
def mulM (p c : Int) (A B : List (List Int)) : List (List Int) := A.map fun row => (flipM c B).map fun col => dot p row col
def addM (p : Int) (A B : List (List Int)) : List (List Int) := (A.zip B).map fun (q : List Int × List Int) => (q.1.zip q.2).map fun (z : Int × Int) => (z.1 + z.2).fmod p
def scaM (p n : Int) (A : List (List Int)) : List (List Int) := A.map fun row => row.map fun a => (n * a).fmod p
theorem fm_lt (x : Int) {p : Int} (h : 2 ≤ p) : 0 ≤ x.fmod p ∧ x.fmod p < p := fm_rng x p (by omega)
theorem flip_Mx {p r c : Int} {M : List (List Int)} (h : Mx p r c M) : Mx p c r (flipM c M) where
  r0 := h.c0
  r1 := h.c1
  c0 := h.r0
  c1 := h.r1
  len := by have := h.c0; simp [flipM, irg_len]; omega
  wid := fun row hr => by
    obtain ⟨k, hk, rfl⟩ := List.mem_map.mp hr
    rw [List.length_map]; exact h.len
  rng := fun row hr a ha => by
    obtain ⟨k, hk, rfl⟩ := List.mem_map.mp hr
    obtain ⟨x, hx, rfl⟩ := List.mem_map.mp ha
    rw [mem_irg] at hk
    exact h.rng x hx _ (at_mem hk.1 (by rw [h.wid x hx]; exact hk.2))
theorem mul_Mx {p r m c : Int} {A B : List (List Int)} (hp : 2 ≤ p) (h : Mx p r m A) (h2 : Mx p m c B) : Mx p r c (mulM p c A B) where
  r0 := h.r0
  r1 := h.r1
  c0 := h2.c0
  c1 := h2.c1
  len := by rw [mulM, List.length_map]; exact h.len
  wid := fun row hr => by
    obtain ⟨x, hx, rfl⟩ := List.mem_map.mp hr
    rw [List.length_map]; exact (flip_Mx h2).len
  rng := fun row hr a ha => by
    obtain ⟨x, hx, rfl⟩ := List.mem_map.mp hr
    obtain ⟨y, hy, rfl⟩ := List.mem_map.mp ha
    unfold dot
    exact fm_lt _ hp
theorem add_Mx {p r c : Int} {A B : List (List Int)} (hp : 2 ≤ p) (h : Mx p r c A) (h2 : Mx p r c B) : Mx p r c (addM p A B) where
  r0 := h.r0
  r1 := h.r1
  c0 := h2.c0
  c1 := h2.c1
  len := by have := h.len; have := h2.len; simp [addM]; omega
  wid := fun row hr => by
    obtain ⟨⟨x, y⟩, hx, rfl⟩ := List.mem_map.mp hr
    have := h.wid x (List.of_mem_zip hx).1
    have := h2.wid y (List.of_mem_zip hx).2
    simp; omega
  rng := fun row hr a ha => by
    obtain ⟨⟨x, y⟩, hx, rfl⟩ := List.mem_map.mp hr
    obtain ⟨z, hz, rfl⟩ := List.mem_map.mp ha
    exact fm_lt _ hp
theorem sca_Mx {p n r c : Int} {A : List (List Int)} (hp : 2 ≤ p) (h : Mx p r c A) : Mx p r c (scaM p n A) where
  r0 := h.r0
  r1 := h.r1
  c0 := h.c0
  c1 := h.c1
  len := by rw [scaM, List.length_map]; exact h.len
  wid := fun row hr => by
    obtain ⟨x, hx, rfl⟩ := List.mem_map.mp hr
    rw [List.length_map]; exact h.wid x hx
  rng := fun row hr a ha => by
    obtain ⟨x, hx, rfl⟩ := List.mem_map.mp hr
    obtain ⟨y, hy, rfl⟩ := List.mem_map.mp ha
    exact fm_lt _ hp
theorem pre_le {α : Type} {xs pre post : List α} {x : α} {a b : Int} (e : xs = pre ++ x :: post) (h : (xs.length : Int) = a) (h2 : a ≤ b) : (pre.length : Int) ≤ b := by
  have := congrArg List.length e
  rw [List.length_append] at this
  omega
abbrev FlipS (G : Sig) (f : Nat) : Prop := ∀ {p r c : Int} {M : List (List Int)} {st : Sto}, Mx p r c M → G.call f [mat r c M] st = .ok (mat c r (flipM c M)) st
theorem flip_s (G : Sig) (st : Sto) {p r c : Int} {M : List (List Int)} (h : Mx p r c M) : runFn G P_flip_of [mat r c M] st = .ok (mat c r (flipM c M)) st := by
  have hw := h.wid
  have := h.c0
  have := h.c1
  apply WO_eq
  unfold P_flip_of
  fail "run"
  refine ⟨?_, rfl⟩
  simp [mat, flipM, iT, Function.comp_def]
abbrev ProdS (G : Sig) (f : Nat) : Prop := ∀ {p r m c : Int} {A B : List (List Int)} {st : Sto}, 2 ≤ p → p ≤ 97 → Mx p r m A → Mx p m c B → G.call f [mat r m A, mat m c B, .int p] st = .ok (mat r c (mulM p c A B)) st
theorem prod_s (G : Sig) (f : Nat) (hf : FlipS G f) (st : Sto) {p r m c : Int} {A B : List (List Int)} (p0 : 2 ≤ p) (p1 : p ≤ 97) (h : Mx p r m A) (h2 : Mx p m c B) : runFn G (P_product_of f) [mat r m A, mat m c B, .int p] st = .ok (mat r c (mulM p c A B)) st := by
  apply WO_eq
  unfold P_product_of
  fail "run"
  have hl := h.wid
  have hr : ∀ row ∈ A, ∀ col : List Int, ∀ q ∈ row.zip col, 0 ≤ q.1 ∧ q.1 < 97 := fun row hr col q hq => by
    have := h.rng row hr q.1 (List.of_mem_zip hq).1
    omega
  have hc : ∀ col ∈ flipM c B, (col.length : Int) = m := (flip_Mx h2).wid
  refine WS_for (xs := A) (e := iT) (fun pre fr s => s = st ∧ ∃ x y z w, fr = [va (mat r m A), va (mat m c B), va (.int p), va (.seq true (List.map iT (flipM c B))), ow ((mulM p c pre B).map iT), x, y, z, w]) ?_ ?_ ?_ ?_
  · fail "ei"
  · exact ⟨rfl, _, _, _, _, rfl⟩
  · rintro pre row post fr s e ⟨rfl, x, y, z, w, rfl⟩
    have hm : row ∈ A := by rw [e]; simp
    have hr := hr row hm
    have hl := hl row hm
    have hle : (pre.length : Int) ≤ 2000 := pre_le e h.len h.r1
    refine ⟨_, by fail "as", ?_⟩
    fail "go"
    refine SZ_mk (by simp [mulM]; omega) ?_
    fail "go"
    exact ⟨rfl, _, _, _, _, by simp [mulM, dot]; exact ⟨rfl, rfl, rfl, rfl⟩⟩
  · rintro fr s ⟨rfl, x, y, z, w, rfl⟩
    fail "go"
    exact ⟨rfl, rfl⟩
abbrev PlusS (G : Sig) (f : Nat) : Prop := ∀ {p r c : Int} {A B : List (List Int)} {st : Sto}, 2 ≤ p → p ≤ 97 → Mx p r c A → Mx p r c B → G.call f [mat r c A, mat r c B, .int p] st = .ok (mat r c (addM p A B)) st
theorem plus_s (G : Sig) (st : Sto) {p r c : Int} {A B : List (List Int)} (p0 : 2 ≤ p) (p1 : p ≤ 97) (h : Mx p r c A) (h2 : Mx p r c B) : runFn G P_plus_of [mat r c A, mat r c B, .int p] st = .ok (mat r c (addM p A B)) st := by
  apply WO_eq
  unfold P_plus_of
  have hl := h.len
  have hl2 := h2.len
  fail "run"
  refine WS_for (xs := A.zip B) (e := fun q => .seq true [iT q.1, iT q.2]) (fun pre fr s => s = st ∧ ∃ x y z w, fr = [va (mat r c A), va (mat r c B), va (.int p), va (.int 1), ow ((pre.map fun (q : List Int × List Int) => (q.1.zip q.2).map fun (z : Int × Int) => (z.1 + 1 * z.2).fmod p).map iT), x, y, z, w]) ?_ ?_ ?_ ?_
  · fail "ei"
  · exact ⟨rfl, _, _, _, _, rfl⟩
  · rintro pre row post fr s e ⟨rfl, x, y, z, w, rfl⟩
    have hm : row ∈ A.zip B := by rw [e]; simp
    have hl := h.wid _ (List.of_mem_zip hm).1
    have hl2 := h2.wid _ (List.of_mem_zip hm).2
    have hle : (pre.length : Int) ≤ 2000 := pre_le e (a := (A.zip B).length) rfl (by have := h.len; have := h2.len; have := h.r1; rw [List.length_zip]; omega)
    refine ⟨_, by fail "as", ?_⟩
    fail "go"
    exact ⟨rfl, _, _, _, _, by simp; exact ⟨rfl, rfl, rfl, rfl⟩⟩
  · rintro fr s ⟨rfl, x, y, z, w, rfl⟩
    fail "go"
    exact ⟨by simp [addM], rfl⟩
abbrev TimesS (G : Sig) (f : Nat) : Prop := ∀ {p r c n : Int} {A : List (List Int)} {st : Sto}, 2 ≤ p → p ≤ 97 → Mx p r c A → G.call f [.int n, mat r c A, .int p] st = .ok (mat r c (scaM p n A)) st
theorem times_s (G : Sig) (st : Sto) {p r c n : Int} {A : List (List Int)} (p0 : 2 ≤ p) (p1 : p ≤ 97) (h : Mx p r c A) : runFn G P_times_of [.int n, mat r c A, .int p] st = .ok (mat r c (scaM p n A)) st := by
  apply WO_eq
  unfold P_times_of
  have hr : ∀ row ∈ A, ∀ a ∈ row, 0 ≤ a ∧ a < p := h.rng
  fail "run"
  exact ⟨by simp [scaM], rfl⟩
end Rq
set_option Elab.async false
set_option linter.all false
set_option maxRecDepth 100000
set_option maxHeartbeats 4000000
/-! Matrices handed in, right or not: need_matrices, product, plus, times, flipped. -/
namespace Rq
open PySem PySem.Spec Rm Rp
local macro_rules | `(tactic| fail "nf") => `(tactic| ((try simp only [wipeF, List.set_cons_succ, List.set_cons_zero, List.cons_append, List.nil_append]); exact rfl))
local macro_rules | `(tactic| fail "as") => `(tactic| focus (first
  | (with_reducible refine' asg_nm ?a ?b); (case a => exact of_decide_eq_true rfl); (case b => fail "nf")
  | with_reducible exact asgL_nil
  | (with_reducible refine' asgL_cons ?a ?b); (case a => fail "as"); (case b => fail "as")
  | (with_reducible refine' asg_tp ?a); (case a => fail "as")
  | (apply asg_tp); fail "as"))
local macro_rules | `(tactic| fail "side") => `(tactic| first
  | with_reducible assumption
  | omega
  | exact rfl
  | assumption
  | (simp only [mem_irg, List.length_map, irg_len] at *; first | omega | (simp [*]; done) | (simp [*]; omega) | grind)
  | decide
  | grind)
local macro_rules | `(tactic| fail "keep") => `(tactic| first
  | with_reducible assumption
  | exact rfl
  | (exact keep_dat (by with_reducible assumption))
  | (exact keep_pl (by with_reducible assumption))
  | (simp [keepAll, *]; done))
local macro_rules | `(tactic| fail "op") => `(tactic| first
  | with_reducible exact sub_int
  | with_reducible exact add_int
  | with_reducible exact eq_int
  | with_reducible exact ne_int
  | with_reducible exact lt_int
  | with_reducible exact le_int
  | with_reducible exact gt_int
  | with_reducible exact ge_int
  | with_reducible exact sum_map
  | with_reducible exact sum_ints
  | with_reducible exact all_map
  | with_reducible exact any_map
  | with_reducible exact len_map
  | with_reducible exact eq_two
  | with_reducible exact ne_two
  | with_reducible exact cut_23
  | with_reducible exact idx0
  | with_reducible exact idx1
  | with_reducible exact idx2
  | (with_reducible refine' mul_int ?a); (case a => (first | left; fail "sml" | right; fail "sml"))
  | (with_reducible refine' mod_int ?a); (case a => fail "side")
  | (with_reducible refine' div_int ?a ?b); (case a => fail "side"); (case b => fail "side")
  | (with_reducible refine' idx_map ?a ?b); (case a => fail "side"); (case b => fail "side")
  | (with_reducible refine' add_map ?a); (case a => fail "side")
  | (with_reducible refine' add_seq ?a); (case a => fail "side")
  | (with_reducible refine' rep_one ?a ?b); (case a => fail "side"); (case b => fail "side")
  | with_reducible assumption
  | with_reducible exact cut_map
  | with_reducible exact cut_raw
  | exact rfl
  | (with_reducible refine' idx_raw ?a ?b); (case a => fail "side"); (case b => fail "side")
  | (simp only [isiAny, isiF, *]; exact rfl))
local macro_rules | `(tactic| fail "sml") => `(tactic| (first | exact rfl | (refine sml ?_ ?_ <;> fail "side")))
local macro_rules | `(tactic| fail "ev") => `(tactic| focus (first
  | (with_reducible refine' EV_var ?a); (case a => exact rfl)
  | with_reducible exact EV_cst
  | (with_reducible refine' EV_loc ?a); (case a => exact rfl)
  | (with_reducible refine' EV_glb ?a); (case a => with_reducible assumption)
  | (with_reducible refine' EV_neg ?a); (case a => fail "ev")
  | (with_reducible refine' EV_not ?a ?b); (case a => fail "ed"); (case b => fail "op")
  | (with_reducible refine' EV_bin ?a ?b ?c); (case a => fail "ed"); (case b => fail "ed"); (case c => fail "op")
  | (with_reducible refine' EV_cmp ?a ?b ?c); (case a => fail "ed"); (case b => fail "ed"); (case c => fail "op")
  | (with_reducible refine' EV_chn ?a ?b ?c ?d ?e); (case a => fail "ed"); (case b => fail "ed"); (case c => fail "op"); (case d => fail "ed"); (case e => fail "op")
  | (with_reducible refine' EV_and ?a); (case a => fail "ea")
  | (with_reducible refine' EV_or ?a); (case a => fail "er")
  | (with_reducible refine' EV_iteT ?a ?b ?c); (case a => fail "ed"); (case b => (first | exact rfl | exact congrArg some (by with_reducible assumption))); (case c => fail "ev")
  | (with_reducible refine' EV_iteF ?a ?b ?c); (case a => fail "ed"); (case b => (first | exact rfl | exact congrArg some (by with_reducible assumption))); (case c => fail "ev")
  | (with_reducible refine' EV_ite ?a ?b ?c ?d); (case a => fail "ed"); (case b => fail "op"); (case c => intro _; fail "ev"); (case d => intro _; fail "ev")
  | (with_reducible refine' EV_tup ?a ?b ?c); (case a => fail "el"); (case b => fail "keep"); (case c => exact fits_lit rfl)
  | (with_reducible refine' EV_lst ?a ?b ?c); (case a => fail "el"); (case b => fail "keep"); (case c => exact fits_lit rfl)
  | (with_reducible refine' EV_sub ?a ?b ?c); (case a => fail "ed"); (case b => fail "ev"); (case c => fail "op")
  | (with_reducible refine' EV_slc ?a ?b ?c ?d); (case a => fail "ed"); (case b => fail "eo"); (case c => fail "eo"); (case d => fail "op")
  | (with_reducible refine' EV_rev ?a ?b); (case a => fail "ed"); (case b => fail "op")
  | (with_reducible refine' EV_call ?a ?b ?c); (case a => fail "el"); (case b => fail "keep"); (case c => fail "call")
  | (with_reducible refine' EV_blt ?a ?b); (case a => fail "edl"); (case b => fail "op")
  | (with_reducible refine' EV_isi ?a ?b); (case a => fail "ed"); (case b => fail "op")
  | (with_reducible refine' EV_idx ?a ?b ?c); (case a => fail "ed"); (case b => fail "ed"); (case c => fail "op")
  | (with_reducible refine' EV_cnt ?a ?b ?c); (case a => fail "ed"); (case b => fail "ed"); (case c => fail "op")
  | (with_reducible refine' EV_comp ?a ?b ?c ?d); (case a => fail "ei"); (case b => intro _ _; fail "as"); (case c => intro _ _; fail "ev"); (case d => intro _ _; fail "keep")
  | (with_reducible refine' EV_compR ?a ?b ?c ?d); (case a => fail "ei"); (case b => intro _ _; fail "as"); (case c => intro _ _; fail "ev"); (case d => intro _ _; fail "keep")
  | (with_reducible refine' EV_compF ?a ?b ?c ?d ?e ?f ?g); (case a => fail "ei"); (case b => intro _ _; fail "as"); (case c => intro _ _; fail "ed"); (case d => intro _ _; fail "op"); (case e => intro _ _ _; fail "ev"); (case f => intro _ _ _; fail "keep"); (case g => intro _; contradiction)
  | (with_reducible refine' EV_compFR ?a ?b ?c ?d ?e ?f ?g); (case a => fail "ei"); (case b => intro _ _; fail "as"); (case c => intro _ _; fail "ed"); (case d => intro _ _; fail "op"); (case e => intro _ _ _; fail "ev"); (case f => intro _ _ _; fail "keep"); (case g => intro _; contradiction)
  | (with_reducible refine' EV_compU ?a ?b ?c); (case a => fail "eu"); (case b => (fail "nf")); (case c => fail "cu")
  | (with_reducible refine' EV_comp2 ?a ?b ?c ?d ?e ?f ?g); (case a => fail "ei"); (case b => intro _ _; fail "as"); (case c => intro _ _; fail "ei"); (case d => intro _ _ _ _; fail "as"); (case e => intro _ _ _ _; fail "ev"); (case f => intro _ _ _ _; fail "keep"); (case g => fail "side")))
local macro_rules | `(tactic| fail "eu") => `(tactic| focus (first
  | (with_reducible refine' EI_ER ?a ?b ?c); (case a => fail "ev"); (case b => exact rfl); (case c => (simp only [enumF]; exact rfl))
  | (with_reducible refine' EI_S ?a ?b); (case a => fail "ev"); (case b => exact rfl)
  | with_reducible exact EI_Rl1
  | with_reducible exact EI_Rl2
  | with_reducible exact EI_Rl3
  | with_reducible exact EI_Rl4
  | with_reducible exact EI_Rl5
  | with_reducible exact EI_Rl6))
local macro_rules | `(tactic| fail "cu") => `(tactic| focus (first
  | with_reducible exact CU_nil
  | (with_reducible refine' CU_all ?a ?b ?c ?d); (case a => fail "as"); (case b => fail "ev"); (case c => fail "keep"); (case d => fail "cu")
  | (with_reducible refine' CU_yes ?a ?b ?c ?d ?e ?f ?g); (case a => fail "as"); (case b => fail "ed"); (case c => (first | exact rfl | (simp [truF, *]; done))); (case d => (intro _; contradiction)); (case e => fail "ev"); (case f => fail "keep"); (case g => fail "cu")
  | (with_reducible refine' CU_no ?a ?b ?c ?d ?e); (case a => fail "as"); (case b => fail "ed"); (case c => (first | exact rfl | (simp [truF, *]; done))); (case d => (intro _; contradiction)); (case e => fail "cu")))
local macro_rules | `(tactic| fail "ed") => `(tactic| focus (first
  | (with_reducible refine' ED_own ?a); (case a => exact rfl)
  | (with_reducible refine' ED_ref ?a ?b); (case a => exact rfl); (case b => exact rfl)
  | (with_reducible refine' ED_ev ?a ?b); (case a => fail "ev"); (case b => (first | with_reducible assumption | exact rfl | exact flat_dat (by with_reducible assumption) | exact flat_pl (by with_reducible assumption)))))
local macro_rules | `(tactic| fail "ea") => `(tactic| focus (first
  | (with_reducible refine' EA_one ?a); (case a => fail "ev")
  | (with_reducible refine' EA_F ?a ?b); (case a => fail "ev"); (case b => (first | exact rfl | with_reducible assumption))
  | (with_reducible refine' EA_cons ?a ?b); (case a => fail "ev"); (case b => intro _; fail "ea")))
local macro_rules | `(tactic| fail "er") => `(tactic| focus (first
  | (with_reducible refine' ER_one ?a); (case a => fail "ev")
  | (with_reducible refine' ER_T ?a ?b); (case a => fail "ev"); (case b => (first | exact rfl | with_reducible assumption))
  | (with_reducible refine' ER_cons ?a ?b); (case a => fail "ev"); (case b => intro _; fail "er")))
local macro_rules | `(tactic| fail "el") => `(tactic| focus (first
  | with_reducible exact EL_nn
  | (with_reducible refine' EL_cons ?a ?b); (case a => fail "ev"); (case b => fail "el")
  | (with_reducible refine' EL_nc ?a ?b); (case a => fail "ev"); (case b => fail "el")))
local macro_rules | `(tactic| fail "edl") => `(tactic| focus (first
  | with_reducible exact EDL_nil
  | (with_reducible refine' EDL_cons ?a ?b); (case a => fail "ed"); (case b => fail "edl")))
local macro_rules | `(tactic| fail "eo") => `(tactic| focus (first
  | with_reducible exact EO_nil
  | (with_reducible refine' EO_ev ?a); (case a => fail "ev")))
local macro_rules | `(tactic| fail "ei") => `(tactic| focus (first
  | (with_reducible refine' EI_R1 ?a ?b ?c); (case a => fail "ev"); (case b => fail "side"); (case c => fail "side")
  | (with_reducible refine' EI_R2 ?a ?b ?c ?d ?e ?f ?g); (case a => fail "ev"); (case b => fail "ev"); (case c => fail "side"); (case d => fail "side"); (case e => fail "side"); (case f => fail "side"); (case g => fail "side")
  | (with_reducible refine' EI_E ?a ?b); (case a => fail "ev"); (case b => exact rfl)
  | (with_reducible refine' EI_Z ?a ?b ?c ?d); (case a => fail "ev"); (case b => fail "ev"); (case c => exact rfl); (case d => exact rfl)
  | (with_reducible refine' EI_ZS ?a ?b ?c ?d ?e); (case a => fail "ev"); (case b => fail "ev"); (case c => exact rfl); (case d => exact rfl); (case e => fail "side")
  | (with_reducible refine' EI_S ?a ?b); (case a => fail "ev"); (case b => exact rfl)))
local macro_rules | `(tactic| fail "call") => `(tactic| (apply_assumption (exfalso := false) <;> fail "side"))
local macro_rules | `(tactic| fail "wo") => `(tactic| first
  | (with_reducible refine' WO_ev ?a ?_); (case a => fail "ev")
  | (with_reducible refine' WO_call ?a ?b ?_); (case a => fail "el"); (case b => fail "keep")
  | with_reducible refine' WO_callG ?_
  | with_reducible refine' WO_nil ?_
  | (with_reducible refine' WO_elL ?a ?_); (case a => fail "el")
  | (with_reducible refine' WO_iteT ?a ?b ?_); (case a => fail "ed"); (case b => (first | exact rfl | exact congrArg some (by with_reducible assumption)))
  | (with_reducible refine' WO_iteF ?a ?b ?_); (case a => fail "ed"); (case b => (first | exact rfl | exact congrArg some (by with_reducible assumption)))
  | with_reducible refine' WO_cons ?_
  | with_reducible refine' WO_tup ?_
  | with_reducible refine' WO_lst ?_
  | with_reducible refine' WO_bin ?_
  | with_reducible refine' WO_cmp ?_
  | with_reducible refine' WO_not ?_
  | with_reducible refine' WO_sub ?_
  | with_reducible refine' WO_blt ?_
  | with_reducible refine' WO_and ?_
  | with_reducible refine' WO_or ?_
  | with_reducible refine' WO_Acons ?_
  | with_reducible refine' WO_Rcons ?_
  | with_reducible refine' WO_Anil ?_
  | with_reducible refine' WO_Rnil ?_
  | (with_reducible refine' WO_of ?a ?_); (case a => fail "op"))
local macro_rules | `(tactic| fail "ws") => `(tactic| first
  | with_reducible refine' WS_nop ?_
  | with_reducible refine' WS_doc ?_
  | with_reducible refine' WS_seq ?_
  | (with_reducible refine' WS_frz ?a ?_); (case a => exact rfl)
  | with_reducible refine' WS_set ?_
  | (with_reducible refine' WS_setF ?a ?b ?_); (case a => fail "keep"); (case b => exact of_decide_eq_true rfl)
  | with_reducible refine' WS_own ?_
  | (with_reducible refine' WS_ownF ?a ?_); (case a => exact of_decide_eq_true rfl)
  | with_reducible refine' WS_tgt ?_
  | with_reducible refine' WS_par ?_
  | with_reducible refine' WS_par3 ?_
  | (with_reducible refine' WS_aug ?a ?_); (case a => exact rfl)
  | (with_reducible refine' WS_app ?a ?_); (case a => exact rfl)
  | (with_reducible refine' WS_sto ?a ?_); (case a => exact rfl)
  | (with_reducible refine' WS_swp ?a ?_); (case a => exact rfl)
  | (with_reducible refine' WS_ins ?a ?_); (case a => exact rfl)
  | with_reducible refine' WS_xpr ?_
  | with_reducible refine' WS_ret ?_
  | with_reducible refine' WS_retN ?_
  | with_reducible refine' WS_retF ?_
  | with_reducible refine' WS_brk ?_
  | with_reducible refine' WS_cnt ?_
  | with_reducible refine' WS_rse ?_
  | with_reducible refine' WS_try ?_
  | (with_reducible refine' WS_iteT ?a ?b ?_); (case a => fail "ed"); (case b => (first | exact rfl | exact congrArg some (by with_reducible assumption)))
  | (with_reducible refine' WS_iteF ?a ?b ?_); (case a => fail "ed"); (case b => (first | exact rfl | exact congrArg some (by with_reducible assumption)))
  | fail "wo")
local macro_rules | `(tactic| fail "mk") => `(tactic| first
  | (with_reducible refine' EX_in ?a ?b ?c ?d ?_); (case a => (first | with_reducible assumption | exact rfl)); (case b => (first | exact rfl | (simp; done))); (case c => exact of_decide_eq_true rfl); (case d => exact rfl)
  | (with_reducible refine' KP_mk ?a ?_); (case a => fail "keep")
  | (with_reducible refine' NF_mk ?a ?_); (case a => fail "nf")
  | (with_reducible refine' AS_mk ?a ?_); (case a => fail "as")
  | (with_reducible refine' KA_mk ?a ?b ?_); (case a => fail "keep"); (case b => exact rfl)
  | with_reducible refine' KL_0 ?_
  | (with_reducible refine' KL_1 ?a ?_); (case a => fail "keep")
  | (with_reducible refine' KL_2 ?a ?_); (case a => fail "keep")
  | (with_reducible refine' KL_3 ?a ?_); (case a => fail "keep")
  | (with_reducible refine' KL_4 ?a ?_); (case a => fail "keep")
  | (with_reducible refine' KL_5 ?a ?_); (case a => fail "keep")
  | (with_reducible refine' L3_mk ?a ?b ?c ?_); (case a => exact of_decide_eq_true rfl); (case b => exact of_decide_eq_true rfl); (case c => exact of_decide_eq_true rfl)
  | (with_reducible refine' L2_mk ?a ?b ?_); (case a => exact of_decide_eq_true rfl); (case b => exact of_decide_eq_true rfl)
  | (with_reducible refine' OF_mk ?a ?_); (case a => fail "op")
  | (with_reducible refine' SZ_mk ?a ?_); (case a => fail "side"))
local macro_rules | `(tactic| fail "if") => `(tactic| first
  | (with_reducible refine' WS_ite ?a ?b ?_ ?_); (case a => fail "ed"); (case b => fail "op")
  | (with_reducible refine' WO_ifE ?a ?b ?_ ?_); (case a => fail "ed"); (case b => fail "op")
  | with_reducible refine' WS_iteG ?_
  | with_reducible refine' WO_ite ?_)
local macro_rules | `(tactic| fail "go") => `(tactic| repeat (first | fail "ws" | fail "mk"))
local macro_rules | `(tactic| fail "run") => `(tactic| (apply WO_run; exact rfl; (first | (simp only [startF, List.map_cons, List.map_nil, List.cons_append, List.nil_append, List.append_nil, List.length_cons, List.length_nil, Nat.reduceAdd, Nat.reduceSub, List.reduceReplicate]; done) | (simp only [startF, List.map_cons, List.map_nil, List.cons_append, List.nil_append, List.append_nil, List.length_cons, List.length_nil, Nat.reduceAdd, Nat.reduceSub, List.reduceReplicate]; exact rfl)); fail "go"))
def unI : PV → Int
  | .int i => i
  | _ => 0
def unR : PV → List Int
  | .seq _ xs => xs.map unI
  | _ => []
def dr : PV → Int
  | .seq _ (.int a :: _) => a
  | _ => 0
def dc : PV → Int
  | .seq _ (_ :: .int b :: _) => b
  | _ => 0
def dM : PV → List (List Int)
  | .seq _ [_, _, .seq _ rows] => rows.map unR
  | _ => []
theorem unI_map (l : List Int) : (l.map PV.int).map unI = l := by
  rw [List.map_map]
  exact List.map_id' l
theorem dM_mat (r c : Int) (M : List (List Int)) : dM (mat r c M) = M := by
  show (M.map iT).map unR = M
  rw [List.map_map]
  have : (unR ∘ iT) = id := by
    funext l
    exact unI_map l
  rw [this, List.map_id]
theorem nm_int' {p : Int} {y : PV} (h : isNm p y = true) : y = .int (unI y) ∧ 0 ≤ unI y ∧ unI y < p := by
  obtain ⟨i, rfl, h1, h2⟩ := nm_int h
  exact ⟨rfl, h1, h2⟩
theorem rw_row {c p : Int} {t : PV} (h : isRw c p t = true) : t = iT (unR t) ∧ ((unR t).length : Int) = c ∧ ∀ a ∈ unR t, 0 ≤ a ∧ a < p := by
  obtain ⟨xs, rfl, l, q⟩ := rw_seq h
  have e : (xs.map unI).map PV.int = xs := by
    rw [List.map_map]
    conv => rhs; rw [← List.map_id xs]
    refine List.map_congr_left fun x hx => ?_
    exact (nm_int' (q x hx)).1.symm
  refine ⟨by show PV.seq true xs = .seq true ((xs.map unI).map .int); rw [e], by show ((xs.map unI).length : Int) = c; rw [List.length_map]; exact l, fun a ha => ?_⟩
  obtain ⟨x, hx, rfl⟩ := List.mem_map.mp ha
  exact (nm_int' (q x hx)).2
theorem mt_mat {p : Int} {x : PV} (h : isMt p x = true) : x = mat (dr x) (dc x) (dM x) ∧ Mx p (dr x) (dc x) (dM x) := by
  unfold isMt at h
  split at h
  · rename_i x y rows
    split at h
    · rename_i a b
      simp only [Bool.and_eq_true, decide_eq_true_eq, List.all_eq_true] at h
      obtain ⟨⟨⟨h1, h2⟩, h3⟩, h4⟩ := h
      have e : (rows.map unR).map iT = rows := by
        rw [List.map_map]
        conv => rhs; rw [← List.map_id rows]
        refine List.map_congr_left fun x hx => ?_
        exact (rw_row (h4 x hx)).1.symm
      refine ⟨?_, h1.1, h1.2, h2.1, h2.2, ?_, ?_, ?_⟩
      · show PV.seq true [.int a, .int b, .seq true rows] = .seq true [.int a, .int b, .seq true ((rows.map unR).map iT)]
        rw [e]
      · show ((rows.map unR).length : Int) = a
        rw [List.length_map]; exact h3
      · intro row hr
        obtain ⟨x, hx, rfl⟩ := List.mem_map.mp (show row ∈ rows.map unR from hr)
        exact (rw_row (h4 x hx)).2.1
      · intro row hr
        obtain ⟨x, hx, rfl⟩ := List.mem_map.mp (show row ∈ rows.map unR from hr)
        exact (rw_row (h4 x hx)).2.2
    · cases h
  · cases h
theorem mat_mt {p r c : Int} {M : List (List Int)} (h : Mx p r c M) : isMt p (mat r c M) = true := by
  show (decide (0 ≤ r ∧ r ≤ 2000) && decide (0 ≤ c ∧ c ≤ 2000) && decide (((M.map iT).length : Int) = r) && (M.map iT).all (isRw c p)) = true
  simp only [Bool.and_eq_true, decide_eq_true_eq, List.all_eq_true, List.length_map]
  refine ⟨⟨⟨⟨h.r0, h.r1⟩, h.c0, h.c1⟩, h.len⟩, fun x hx => ?_⟩
  obtain ⟨row, hr, rfl⟩ := List.mem_map.mp hx
  show (decide (((row.map PV.int).length : Int) = c) && (row.map PV.int).all (isNm p)) = true
  simp only [Bool.and_eq_true, decide_eq_true_eq, List.all_eq_true, List.length_map]
  refine ⟨h.wid row hr, fun y hy => ?_⟩
  obtain ⟨a, ha, rfl⟩ := List.mem_map.mp hy
  simp only [isNm, decide_eq_true_eq]
  exact h.rng row hr a ha
theorem mt_ex {p : Int} {x : PV} (h : isMt p x = true) : ∃ r c M, x = mat r c M ∧ Mx p r c M := ⟨_, _, _, (mt_mat h).1, (mt_mat h).2⟩
theorem pr_ex {q : PV} (h : isPr q = true) : ∃ p, q = .int p ∧ isP p = true ∧ 2 ≤ p ∧ p ≤ 97 := by
  have e := pr_int h
  rw [e] at h
  exact ⟨_, e, h, isP_rng h⟩
theorem ints_dat (l : List Int) : areDat (l.map PV.int) = true := areDat_ints l
theorem dat_all : ∀ {xs : List PV}, (∀ x ∈ xs, isDat x = true) → areDat xs = true
  | [], _ => rfl
  | x :: xs, h => by
    simp only [areDat, Bool.and_eq_true]
    exact ⟨h x List.mem_cons_self, dat_all fun y hy => h y (List.mem_cons_of_mem _ hy)⟩
theorem mat_dat (r c : Int) (M : List (List Int)) : isDat (mat r c M) = true := by
  show areDat [.int r, .int c, .seq true (M.map iT)] = true
  have : areDat (M.map iT) = true := dat_all fun x hx => by
    obtain ⟨row, _, rfl⟩ := List.mem_map.mp hx
    exact ints_dat row
  simp only [areDat, isDat, this, Bool.and_self]
/-- the calls that refuse: what is to be shown behind each way out -/
abbrev NeedMC (G : Sig) (f cP cM : Nat) : Prop := ∀ {ts : List PV} {q : PV} {st : Sto} {A : PV → Sto → Prop} {X : Nat → PV → Sto → Prop}, (∀ t ∈ ts, isDat t = true) → pl q = true →
  (isPr q = false → X cP .non st) → (isPr q = true → ts.all (isMt (iv q)) = false → X cM .non st) → (isPr q = true → ts.all (isMt (iv q)) = true → A .non st) → WO (G.call f [.seq false ts, q] st) A X
theorem needm_c {G : Sig} {f cP cM : Nat} (h : NMsOk G f cP cM) : NeedMC G f cP cM := fun {ts q st A X} hd hq k1 k2 k3 => by
  have e := h ts q st hd hq
  cases hp : isPr q with
  | false =>
    rw [hp, if_neg (by decide)] at e
    exact WO_ex e (k1 hp)
  | true =>
    rw [hp, if_pos rfl] at e
    cases hm : ts.all (isMt (iv q)) with
    | false =>
      rw [hm, if_neg (by decide)] at e
      exact WO_ex e (k2 hp hm)
    | true =>
      rw [hm, if_pos rfl] at e
      exact WO_is e (k3 hp hm)
abbrev FitC (G : Sig) (f c : Nat) : Prop := ∀ {b : Bool} {st : Sto} {A : PV → Sto → Prop} {X : Nat → PV → Sto → Prop}, (b = false → X c .non st) → (b = true → A .non st) → WO (G.call f [.bl b] st) A X
theorem fit_c {G : Sig} {f c : Nat} (h : FitOk G f c) : FitC G f c := fun {b st A X} k1 k2 => by
  have e := h b st
  cases b with
  | false => exact WO_ex e (k1 rfl)
  | true => exact WO_is e (k2 rfl)
abbrev NeedPC (G : Sig) (f c : Nat) : Prop := ∀ {q : PV} {st : Sto} {A : PV → Sto → Prop} {X : Nat → PV → Sto → Prop}, pl q = true → (isPr q = false → X c .non st) → (isPr q = true → A .non st) → WO (G.call f [q] st) A X
theorem needp_c {G : Sig} {f c : Nat} (h : NeedOk G f c) : NeedPC G f c := fun {q st A X} hq k1 k2 => by
  have e := h q st hq
  cases hp : isPr q with
  | false => rw [hp, if_neg (by decide)] at e; exact WO_ex e (k1 hp)
  | true => rw [hp, if_pos rfl] at e; exact WO_is e (k2 hp)
abbrev ProductC (G : Sig) (f cP cM cF : Nat) : Prop := ∀ {x y q : PV} {st : Sto} {A : PV → Sto → Prop} {X : Nat → PV → Sto → Prop}, isDat x = true → isDat y = true → pl q = true →
  (isPr q = false → X cP .non st) → (isPr q = true → (isMt (iv q) x = false ∨ isMt (iv q) y = false) → X cM .non st) → (isPr q = true → isMt (iv q) x = true → isMt (iv q) y = true → dc x ≠ dr y → X cF .non st) →
  (isPr q = true → isMt (iv q) x = true → isMt (iv q) y = true → dc x = dr y → A (mat (dr x) (dc y) (mulM (iv q) (dc y) (dM x) (dM y))) st) → WO (G.call f [x, y, q] st) A X
theorem all2 {p : Int} {x y : PV} : ([x, y].all (isMt p) = true ↔ isMt p x = true ∧ isMt p y = true) ∧ ([x, y].all (isMt p) = false ↔ (isMt p x = false ∨ isMt p y = false)) := by
  cases h : isMt p x <;> cases h2 : isMt p y <;> simp [h, h2]
theorem product_c (G : Sig) (fn ff fp cP cM cF : Nat) (hn : NeedMC G fn cP cM) (hf : FitC G ff cF) (hp : ProdS G fp) {x y q : PV} {st : Sto} {A : PV → Sto → Prop} {X : Nat → PV → Sto → Prop} (dx : isDat x = true) (dy : isDat y = true) (hq : pl q = true)
    (k1 : isPr q = false → X cP .non st) (k2 : isPr q = true → (isMt (iv q) x = false ∨ isMt (iv q) y = false) → X cM .non st) (k3 : isPr q = true → isMt (iv q) x = true → isMt (iv q) y = true → dc x ≠ dr y → X cF .non st)
    (k4 : isPr q = true → isMt (iv q) x = true → isMt (iv q) y = true → dc x = dr y → A (mat (dr x) (dc y) (mulM (iv q) (dc y) (dM x) (dM y))) st) : WO (runFn G (P_product fn ff fp) [x, y, q] st) A X := by
  unfold P_product
  have kx := keep_dat dx
  have ky := keep_dat dy
  have kq := keep_pl hq
  fail "run"
  refine hn (by simp [dx, dy]) hq k1 (fun h h2 => k2 h (all2.2.mp h2)) fun h h2 => ?_
  obtain ⟨m1, m2⟩ := all2.1.mp h2
  obtain ⟨p, rfl, hp', p0, p1⟩ := pr_ex h
  obtain ⟨r, c, M, rfl, M1⟩ := mt_ex m1
  obtain ⟨r2, c2, M', rfl, M2⟩ := mt_ex m2
  fail "go"
  refine hf (fun h' => k3 h m1 m2 (of_decide_eq_false h')) fun h' => ?_
  simp at h'
  have k4 := k4 h m1 m2 h'
  rw [dM_mat, dM_mat] at k4
  subst h'
  fail "go"
  exact k4
abbrev PlusC (G : Sig) (f cP cM cF : Nat) : Prop := ∀ {x y q : PV} {st : Sto} {A : PV → Sto → Prop} {X : Nat → PV → Sto → Prop}, isDat x = true → isDat y = true → pl q = true →
  (isPr q = false → X cP .non st) → (isPr q = true → (isMt (iv q) x = false ∨ isMt (iv q) y = false) → X cM .non st) → (isPr q = true → isMt (iv q) x = true → isMt (iv q) y = true → ¬ (dr x = dr y ∧ dc x = dc y) → X cF .non st) →
  (isPr q = true → isMt (iv q) x = true → isMt (iv q) y = true → dr x = dr y → dc x = dc y → A (mat (dr x) (dc x) (addM (iv q) (dM x) (dM y))) st) → WO (G.call f [x, y, q] st) A X
theorem plus_c (G : Sig) (fn ff fp cP cM cF : Nat) (hn : NeedMC G fn cP cM) (hf : FitC G ff cF) (hp : PlusS G fp) {x y q : PV} {st : Sto} {A : PV → Sto → Prop} {X : Nat → PV → Sto → Prop} (dx : isDat x = true) (dy : isDat y = true) (hq : pl q = true)
    (k1 : isPr q = false → X cP .non st) (k2 : isPr q = true → (isMt (iv q) x = false ∨ isMt (iv q) y = false) → X cM .non st) (k3 : isPr q = true → isMt (iv q) x = true → isMt (iv q) y = true → ¬ (dr x = dr y ∧ dc x = dc y) → X cF .non st)
    (k4 : isPr q = true → isMt (iv q) x = true → isMt (iv q) y = true → dr x = dr y → dc x = dc y → A (mat (dr x) (dc x) (addM (iv q) (dM x) (dM y))) st) : WO (runFn G (P_plus fn ff fp) [x, y, q] st) A X := by
  unfold P_plus
  have kx := keep_dat dx
  have ky := keep_dat dy
  have kq := keep_pl hq
  fail "run"
  refine hn (by simp [dx, dy]) hq k1 (fun h h2 => k2 h (all2.2.mp h2)) fun h h2 => ?_
  obtain ⟨m1, m2⟩ := all2.1.mp h2
  obtain ⟨p, rfl, hp', p0, p1⟩ := pr_ex h
  obtain ⟨r, c, M, rfl, M1⟩ := mt_ex m1
  obtain ⟨r2, c2, M', rfl, M2⟩ := mt_ex m2
  fail "go"
  refine hf (fun h' => k3 h m1 m2 (of_decide_eq_false h')) fun h' => ?_
  simp at h'
  have k5 := k4 h m1 m2 h'.1 h'.2
  rw [dM_mat, dM_mat] at k5
  obtain ⟨rfl, rfl⟩ := h'
  fail "go"
  exact k5
abbrev TimesC (G : Sig) (f cP cN cM : Nat) : Prop := ∀ {n x q : PV} {st : Sto} {A : PV → Sto → Prop} {X : Nat → PV → Sto → Prop}, pl n = true → isDat x = true → pl q = true →
  (isPr q = false → X cP .non st) → (isPr q = true → isWh n = false → X cN .non st) → (isPr q = true → isWh n = true → isMt (iv q) x = false → X cM .non st) →
  (isPr q = true → isWh n = true → isMt (iv q) x = true → A (mat (dr x) (dc x) (scaM (iv q) (unI n) (dM x))) st) → WO (G.call f [n, x, q] st) A X
theorem times_c (G : Sig) (fn fw fm ft cN cP cM : Nat) (hn : NeedPC G fn cP) (hw : WholeOk G fw) (hm : NeedMC G fm cP cM) (ht : TimesS G ft) {n x q : PV} {st : Sto} {A : PV → Sto → Prop} {X : Nat → PV → Sto → Prop} (dn : pl n = true) (dx : isDat x = true) (hq : pl q = true)
    (k1 : isPr q = false → X cP .non st) (k2 : isPr q = true → isWh n = false → X cN .non st) (k3 : isPr q = true → isWh n = true → isMt (iv q) x = false → X cM .non st)
    (k4 : isPr q = true → isWh n = true → isMt (iv q) x = true → A (mat (dr x) (dc x) (scaM (iv q) (unI n) (dM x))) st) : WO (runFn G (P_times fn fw fm ft cN) [n, x, q] st) A X := by
  unfold P_times
  have kx := keep_dat dx
  have kn := keep_pl dn
  have kq := keep_pl hq
  fail "run"
  refine hn hq k1 fun h => ?_
  fail "go"
  fail "if"
  · intro h2
    fail "go"
    exact k2 h (by simpa using h2)
  · intro h2
    have h2 : isWh n = true := by simpa using h2
    fail "go"
    refine hm (by simp [dx]) hq k1 (fun h h3 => k3 h h2 (by simpa using h3)) fun h h3 => ?_
    have m1 : isMt (iv q) x = true := by simpa using h3
    obtain ⟨p, rfl, hp', p0, p1⟩ := pr_ex h
    obtain ⟨r, c, M, rfl, M1⟩ := mt_ex m1
    have k4 := k4 h h2 m1
    rw [dM_mat] at k4
    obtain ⟨i, rfl⟩ : ∃ i, n = .int i := by cases n <;> first | exact ⟨_, rfl⟩ | exact nomatch (show false = true from h2)
    fail "go"
    exact k4
abbrev FlipC (G : Sig) (f cP cM : Nat) : Prop := ∀ {x q : PV} {st : Sto} {A : PV → Sto → Prop} {X : Nat → PV → Sto → Prop}, isDat x = true → pl q = true →
  (isPr q = false → X cP .non st) → (isPr q = true → isMt (iv q) x = false → X cM .non st) →
  (isPr q = true → isMt (iv q) x = true → A (mat (dc x) (dr x) (flipM (dc x) (dM x))) st) → WO (G.call f [x, q] st) A X
theorem flipped_c (G : Sig) (fm ff cP cM : Nat) (hm : NeedMC G fm cP cM) (hf : FlipS G ff) {x q : PV} {st : Sto} {A : PV → Sto → Prop} {X : Nat → PV → Sto → Prop} (dx : isDat x = true) (hq : pl q = true)
    (k1 : isPr q = false → X cP .non st) (k2 : isPr q = true → isMt (iv q) x = false → X cM .non st)
    (k3 : isPr q = true → isMt (iv q) x = true → A (mat (dc x) (dr x) (flipM (dc x) (dM x))) st) : WO (runFn G (P_flipped fm ff) [x, q] st) A X := by
  unfold P_flipped
  have kx := keep_dat dx
  have kq := keep_pl hq
  fail "run"
  refine hm (by simp [dx]) hq k1 (fun h h2 => k2 h (by simpa using h2)) fun h h2 => ?_
  have m1 : isMt (iv q) x = true := by simpa using h2
  obtain ⟨p, rfl, hp', p0, p1⟩ := pr_ex h
  obtain ⟨r, c, M, rfl, M1⟩ := mt_ex m1
  fail "go"
  have k3 := k3 h m1
  rw [dM_mat] at k3
  exact k3
end Rq
set_option Elab.async false
set_option linter.all false
set_option maxRecDepth 100000
set_option maxHeartbeats 4000000
/-! The law of products, k03: its own defs. -/
namespace Rq
open PySem PySem.Spec Rm Rp
local macro_rules | `(tactic| fail "nf") => `(tactic| ((try simp only [wipeF, List.set_cons_succ, List.set_cons_zero, List.cons_append, List.nil_append]); exact rfl))
local macro_rules | `(tactic| fail "as") => `(tactic| focus (first
  | (with_reducible refine' asg_nm ?a ?b); (case a => exact of_decide_eq_true rfl); (case b => fail "nf")
  | with_reducible exact asgL_nil
  | (with_reducible refine' asgL_cons ?a ?b); (case a => fail "as"); (case b => fail "as")
  | (with_reducible refine' asg_tp ?a); (case a => fail "as")
  | (apply asg_tp); fail "as"))
local macro_rules | `(tactic| fail "side") => `(tactic| first
  | with_reducible assumption
  | omega
  | exact rfl
  | assumption
  | (simp only [mem_irg, List.length_map, irg_len] at *; first | omega | (simp [*]; done) | (simp [*]; omega) | grind)
  | decide
  | grind)
local macro_rules | `(tactic| fail "keep") => `(tactic| first
  | with_reducible assumption
  | exact rfl
  | (exact keep_dat (by with_reducible assumption))
  | (exact keep_pl (by with_reducible assumption))
  | (simp [keepAll, *]; done))
local macro_rules | `(tactic| fail "op") => `(tactic| first
  | with_reducible exact sub_int
  | with_reducible exact add_int
  | with_reducible exact eq_int
  | with_reducible exact ne_int
  | with_reducible exact lt_int
  | with_reducible exact le_int
  | with_reducible exact gt_int
  | with_reducible exact ge_int
  | with_reducible exact sum_map
  | with_reducible exact sum_ints
  | with_reducible exact all_map
  | with_reducible exact any_map
  | with_reducible exact len_map
  | with_reducible exact eq_two
  | with_reducible exact ne_two
  | with_reducible exact cut_23
  | with_reducible exact idx0
  | with_reducible exact idx1
  | with_reducible exact idx2
  | (with_reducible refine' mul_int ?a); (case a => (first | left; fail "sml" | right; fail "sml"))
  | (with_reducible refine' mod_int ?a); (case a => fail "side")
  | (with_reducible refine' div_int ?a ?b); (case a => fail "side"); (case b => fail "side")
  | (with_reducible refine' idx_map ?a ?b); (case a => fail "side"); (case b => fail "side")
  | (with_reducible refine' add_map ?a); (case a => fail "side")
  | (with_reducible refine' add_seq ?a); (case a => fail "side")
  | (with_reducible refine' rep_one ?a ?b); (case a => fail "side"); (case b => fail "side")
  | with_reducible assumption
  | with_reducible exact cut_map
  | with_reducible exact cut_raw
  | exact rfl
  | (with_reducible refine' idx_raw ?a ?b); (case a => fail "side"); (case b => fail "side")
  | (simp only [isiAny, isiF, *]; exact rfl))
local macro_rules | `(tactic| fail "sml") => `(tactic| (first | exact rfl | (refine sml ?_ ?_ <;> fail "side")))
local macro_rules | `(tactic| fail "ev") => `(tactic| focus (first
  | (with_reducible refine' EV_var ?a); (case a => exact rfl)
  | with_reducible exact EV_cst
  | (with_reducible refine' EV_loc ?a); (case a => exact rfl)
  | (with_reducible refine' EV_glb ?a); (case a => with_reducible assumption)
  | (with_reducible refine' EV_neg ?a); (case a => fail "ev")
  | (with_reducible refine' EV_not ?a ?b); (case a => fail "ed"); (case b => fail "op")
  | (with_reducible refine' EV_bin ?a ?b ?c); (case a => fail "ed"); (case b => fail "ed"); (case c => fail "op")
  | (with_reducible refine' EV_cmp ?a ?b ?c); (case a => fail "ed"); (case b => fail "ed"); (case c => fail "op")
  | (with_reducible refine' EV_chn ?a ?b ?c ?d ?e); (case a => fail "ed"); (case b => fail "ed"); (case c => fail "op"); (case d => fail "ed"); (case e => fail "op")
  | (with_reducible refine' EV_and ?a); (case a => fail "ea")
  | (with_reducible refine' EV_or ?a); (case a => fail "er")
  | (with_reducible refine' EV_iteT ?a ?b ?c); (case a => fail "ed"); (case b => (first | exact rfl | exact congrArg some (by with_reducible assumption))); (case c => fail "ev")
  | (with_reducible refine' EV_iteF ?a ?b ?c); (case a => fail "ed"); (case b => (first | exact rfl | exact congrArg some (by with_reducible assumption))); (case c => fail "ev")
  | (with_reducible refine' EV_ite ?a ?b ?c ?d); (case a => fail "ed"); (case b => fail "op"); (case c => intro _; fail "ev"); (case d => intro _; fail "ev")
  | (with_reducible refine' EV_tup ?a ?b ?c); (case a => fail "el"); (case b => fail "keep"); (case c => exact fits_lit rfl)
  | (with_reducible refine' EV_lst ?a ?b ?c); (case a => fail "el"); (case b => fail "keep"); (case c => exact fits_lit rfl)
  | (with_reducible refine' EV_sub ?a ?b ?c); (case a => fail "ed"); (case b => fail "ev"); (case c => fail "op")
  | (with_reducible refine' EV_slc ?a ?b ?c ?d); (case a => fail "ed"); (case b => fail "eo"); (case c => fail "eo"); (case d => fail "op")
  | (with_reducible refine' EV_rev ?a ?b); (case a => fail "ed"); (case b => fail "op")
  | (with_reducible refine' EV_call ?a ?b ?c); (case a => fail "el"); (case b => fail "keep"); (case c => fail "call")
  | (with_reducible refine' EV_blt ?a ?b); (case a => fail "edl"); (case b => fail "op")
  | (with_reducible refine' EV_isi ?a ?b); (case a => fail "ed"); (case b => fail "op")
  | (with_reducible refine' EV_idx ?a ?b ?c); (case a => fail "ed"); (case b => fail "ed"); (case c => fail "op")
  | (with_reducible refine' EV_cnt ?a ?b ?c); (case a => fail "ed"); (case b => fail "ed"); (case c => fail "op")
  | (with_reducible refine' EV_comp ?a ?b ?c ?d); (case a => fail "ei"); (case b => intro _ _; fail "as"); (case c => intro _ _; fail "ev"); (case d => intro _ _; fail "keep")
  | (with_reducible refine' EV_compR ?a ?b ?c ?d); (case a => fail "ei"); (case b => intro _ _; fail "as"); (case c => intro _ _; fail "ev"); (case d => intro _ _; fail "keep")
  | (with_reducible refine' EV_compF ?a ?b ?c ?d ?e ?f ?g); (case a => fail "ei"); (case b => intro _ _; fail "as"); (case c => intro _ _; fail "ed"); (case d => intro _ _; fail "op"); (case e => intro _ _ _; fail "ev"); (case f => intro _ _ _; fail "keep"); (case g => intro _; contradiction)
  | (with_reducible refine' EV_compFR ?a ?b ?c ?d ?e ?f ?g); (case a => fail "ei"); (case b => intro _ _; fail "as"); (case c => intro _ _; fail "ed"); (case d => intro _ _; fail "op"); (case e => intro _ _ _; fail "ev"); (case f => intro _ _ _; fail "keep"); (case g => intro _; contradiction)
  | (with_reducible refine' EV_compU ?a ?b ?c); (case a => fail "eu"); (case b => (fail "nf")); (case c => fail "cu")
  | (with_reducible refine' EV_comp2 ?a ?b ?c ?d ?e ?f ?g); (case a => fail "ei"); (case b => intro _ _; fail "as"); (case c => intro _ _; fail "ei"); (case d => intro _ _ _ _; fail "as"); (case e => intro _ _ _ _; fail "ev"); (case f => intro _ _ _ _; fail "keep"); (case g => fail "side")))
local macro_rules | `(tactic| fail "eu") => `(tactic| focus (first
  | (with_reducible refine' EI_ER ?a ?b ?c); (case a => fail "ev"); (case b => exact rfl); (case c => (simp only [enumF]; exact rfl))
  | (with_reducible refine' EI_S ?a ?b); (case a => fail "ev"); (case b => exact rfl)
  | with_reducible exact EI_Rl1
  | with_reducible exact EI_Rl2
  | with_reducible exact EI_Rl3
  | with_reducible exact EI_Rl4
  | with_reducible exact EI_Rl5
  | with_reducible exact EI_Rl6))
local macro_rules | `(tactic| fail "cu") => `(tactic| focus (first
  | with_reducible exact CU_nil
  | (with_reducible refine' CU_all ?a ?b ?c ?d); (case a => fail "as"); (case b => fail "ev"); (case c => fail "keep"); (case d => fail "cu")
  | (with_reducible refine' CU_yes ?a ?b ?c ?d ?e ?f ?g); (case a => fail "as"); (case b => fail "ed"); (case c => (first | exact rfl | (simp [truF, *]; done))); (case d => (intro _; contradiction)); (case e => fail "ev"); (case f => fail "keep"); (case g => fail "cu")
  | (with_reducible refine' CU_no ?a ?b ?c ?d ?e); (case a => fail "as"); (case b => fail "ed"); (case c => (first | exact rfl | (simp [truF, *]; done))); (case d => (intro _; contradiction)); (case e => fail "cu")))
local macro_rules | `(tactic| fail "ed") => `(tactic| focus (first
  | (with_reducible refine' ED_own ?a); (case a => exact rfl)
  | (with_reducible refine' ED_ref ?a ?b); (case a => exact rfl); (case b => exact rfl)
  | (with_reducible refine' ED_ev ?a ?b); (case a => fail "ev"); (case b => (first | with_reducible assumption | exact rfl | exact flat_dat (by with_reducible assumption) | exact flat_pl (by with_reducible assumption)))))
local macro_rules | `(tactic| fail "ea") => `(tactic| focus (first
  | (with_reducible refine' EA_one ?a); (case a => fail "ev")
  | (with_reducible refine' EA_F ?a ?b); (case a => fail "ev"); (case b => (first | exact rfl | with_reducible assumption))
  | (with_reducible refine' EA_cons ?a ?b); (case a => fail "ev"); (case b => intro _; fail "ea")))
local macro_rules | `(tactic| fail "er") => `(tactic| focus (first
  | (with_reducible refine' ER_one ?a); (case a => fail "ev")
  | (with_reducible refine' ER_T ?a ?b); (case a => fail "ev"); (case b => (first | exact rfl | with_reducible assumption))
  | (with_reducible refine' ER_cons ?a ?b); (case a => fail "ev"); (case b => intro _; fail "er")))
local macro_rules | `(tactic| fail "el") => `(tactic| focus (first
  | with_reducible exact EL_nn
  | (with_reducible refine' EL_cons ?a ?b); (case a => fail "ev"); (case b => fail "el")
  | (with_reducible refine' EL_nc ?a ?b); (case a => fail "ev"); (case b => fail "el")))
local macro_rules | `(tactic| fail "edl") => `(tactic| focus (first
  | with_reducible exact EDL_nil
  | (with_reducible refine' EDL_cons ?a ?b); (case a => fail "ed"); (case b => fail "edl")))
local macro_rules | `(tactic| fail "eo") => `(tactic| focus (first
  | with_reducible exact EO_nil
  | (with_reducible refine' EO_ev ?a); (case a => fail "ev")))
local macro_rules | `(tactic| fail "ei") => `(tactic| focus (first
  | (with_reducible refine' EI_R1 ?a ?b ?c); (case a => fail "ev"); (case b => fail "side"); (case c => fail "side")
  | (with_reducible refine' EI_R2 ?a ?b ?c ?d ?e ?f ?g); (case a => fail "ev"); (case b => fail "ev"); (case c => fail "side"); (case d => fail "side"); (case e => fail "side"); (case f => fail "side"); (case g => fail "side")
  | (with_reducible refine' EI_E ?a ?b); (case a => fail "ev"); (case b => exact rfl)
  | (with_reducible refine' EI_Z ?a ?b ?c ?d); (case a => fail "ev"); (case b => fail "ev"); (case c => exact rfl); (case d => exact rfl)
  | (with_reducible refine' EI_ZS ?a ?b ?c ?d ?e); (case a => fail "ev"); (case b => fail "ev"); (case c => exact rfl); (case d => exact rfl); (case e => fail "side")
  | (with_reducible refine' EI_S ?a ?b); (case a => fail "ev"); (case b => exact rfl)))
local macro_rules | `(tactic| fail "call") => `(tactic| (apply_assumption (exfalso := false) <;> fail "side"))
local macro_rules | `(tactic| fail "wo") => `(tactic| first
  | (with_reducible refine' WO_ev ?a ?_); (case a => fail "ev")
  | (with_reducible refine' WO_call ?a ?b ?_); (case a => fail "el"); (case b => fail "keep")
  | with_reducible refine' WO_callG ?_
  | with_reducible refine' WO_nil ?_
  | (with_reducible refine' WO_elL ?a ?_); (case a => fail "el")
  | (with_reducible refine' WO_iteT ?a ?b ?_); (case a => fail "ed"); (case b => (first | exact rfl | exact congrArg some (by with_reducible assumption)))
  | (with_reducible refine' WO_iteF ?a ?b ?_); (case a => fail "ed"); (case b => (first | exact rfl | exact congrArg some (by with_reducible assumption)))
  | with_reducible refine' WO_cons ?_
  | with_reducible refine' WO_tup ?_
  | with_reducible refine' WO_lst ?_
  | with_reducible refine' WO_bin ?_
  | with_reducible refine' WO_cmp ?_
  | with_reducible refine' WO_not ?_
  | with_reducible refine' WO_sub ?_
  | with_reducible refine' WO_blt ?_
  | with_reducible refine' WO_and ?_
  | with_reducible refine' WO_or ?_
  | with_reducible refine' WO_Acons ?_
  | with_reducible refine' WO_Rcons ?_
  | with_reducible refine' WO_Anil ?_
  | with_reducible refine' WO_Rnil ?_
  | (with_reducible refine' WO_of ?a ?_); (case a => fail "op"))
local macro_rules | `(tactic| fail "ws") => `(tactic| first
  | with_reducible refine' WS_nop ?_
  | with_reducible refine' WS_doc ?_
  | with_reducible refine' WS_seq ?_
  | (with_reducible refine' WS_frz ?a ?_); (case a => exact rfl)
  | with_reducible refine' WS_set ?_
  | (with_reducible refine' WS_setF ?a ?b ?_); (case a => fail "keep"); (case b => exact of_decide_eq_true rfl)
  | with_reducible refine' WS_own ?_
  | (with_reducible refine' WS_ownF ?a ?_); (case a => exact of_decide_eq_true rfl)
  | with_reducible refine' WS_tgt ?_
  | with_reducible refine' WS_par ?_
  | with_reducible refine' WS_par3 ?_
  | (with_reducible refine' WS_aug ?a ?_); (case a => exact rfl)
  | (with_reducible refine' WS_app ?a ?_); (case a => exact rfl)
  | (with_reducible refine' WS_sto ?a ?_); (case a => exact rfl)
  | (with_reducible refine' WS_swp ?a ?_); (case a => exact rfl)
  | (with_reducible refine' WS_ins ?a ?_); (case a => exact rfl)
  | with_reducible refine' WS_xpr ?_
  | with_reducible refine' WS_ret ?_
  | with_reducible refine' WS_retN ?_
  | with_reducible refine' WS_retF ?_
  | with_reducible refine' WS_brk ?_
  | with_reducible refine' WS_cnt ?_
  | with_reducible refine' WS_rse ?_
  | with_reducible refine' WS_try ?_
  | (with_reducible refine' WS_iteT ?a ?b ?_); (case a => fail "ed"); (case b => (first | exact rfl | exact congrArg some (by with_reducible assumption)))
  | (with_reducible refine' WS_iteF ?a ?b ?_); (case a => fail "ed"); (case b => (first | exact rfl | exact congrArg some (by with_reducible assumption)))
  | fail "wo")
local macro_rules | `(tactic| fail "mk") => `(tactic| first
  | (with_reducible refine' EX_in ?a ?b ?c ?d ?_); (case a => (first | with_reducible assumption | exact rfl)); (case b => (first | exact rfl | (simp; done))); (case c => exact of_decide_eq_true rfl); (case d => exact rfl)
  | (with_reducible refine' KP_mk ?a ?_); (case a => fail "keep")
  | (with_reducible refine' NF_mk ?a ?_); (case a => fail "nf")
  | (with_reducible refine' AS_mk ?a ?_); (case a => fail "as")
  | (with_reducible refine' KA_mk ?a ?b ?_); (case a => fail "keep"); (case b => exact rfl)
  | with_reducible refine' KL_0 ?_
  | (with_reducible refine' KL_1 ?a ?_); (case a => fail "keep")
  | (with_reducible refine' KL_2 ?a ?_); (case a => fail "keep")
  | (with_reducible refine' KL_3 ?a ?_); (case a => fail "keep")
  | (with_reducible refine' KL_4 ?a ?_); (case a => fail "keep")
  | (with_reducible refine' KL_5 ?a ?_); (case a => fail "keep")
  | (with_reducible refine' L3_mk ?a ?b ?c ?_); (case a => exact of_decide_eq_true rfl); (case b => exact of_decide_eq_true rfl); (case c => exact of_decide_eq_true rfl)
  | (with_reducible refine' L2_mk ?a ?b ?_); (case a => exact of_decide_eq_true rfl); (case b => exact of_decide_eq_true rfl)
  | (with_reducible refine' OF_mk ?a ?_); (case a => fail "op")
  | (with_reducible refine' SZ_mk ?a ?_); (case a => fail "side"))
local macro_rules | `(tactic| fail "if") => `(tactic| first
  | (with_reducible refine' WS_ite ?a ?b ?_ ?_); (case a => fail "ed"); (case b => fail "op")
  | (with_reducible refine' WO_ifE ?a ?b ?_ ?_); (case a => fail "ed"); (case b => fail "op")
  | with_reducible refine' WS_iteG ?_
  | with_reducible refine' WO_ite ?_)
local macro_rules | `(tactic| fail "go") => `(tactic| repeat (first | fail "ws" | fail "mk"))
local macro_rules | `(tactic| fail "run") => `(tactic| (apply WO_run; exact rfl; (first | (simp only [startF, List.map_cons, List.map_nil, List.cons_append, List.nil_append, List.append_nil, List.length_cons, List.length_nil, Nat.reduceAdd, Nat.reduceSub, List.reduceReplicate]; done) | (simp only [startF, List.map_cons, List.map_nil, List.cons_append, List.nil_append, List.append_nil, List.length_cons, List.length_nil, Nat.reduceAdd, Nat.reduceSub, List.reduceReplicate]; exact rfl)); fail "go"))
@[irreducible] def toldV (way : Int) (n x y q : PV) : PV :=
  if isPr q = false then .str "prime"
  else if way = 2 ∧ isWh n = false then .str "number"
  else if isMt (iv q) x = false ∨ (way < 2 ∧ isMt (iv q) y = false) then .str "matrix"
  else if way = 0 then (if dc x = dr y then mat (dr x) (dc y) (mulM (iv q) (dc y) (dM x) (dM y)) else .str "fit")
  else if way = 1 then (if dr x = dr y ∧ dc x = dc y then mat (dr x) (dc x) (addM (iv q) (dM x) (dM y)) else .str "fit")
  else if way = 2 then mat (dr x) (dc x) (scaM (iv q) (unI n) (dM x))
  else mat (dc x) (dr x) (flipM (dc x) (dM x))
abbrev RefS (G : Sig) (f c : Nat) (s : Str) : Prop := ∀ {st : Sto}, G.call f [.exc c .non] st = .ok (.str s) st
theorem ref_P (G : Sig) (hA : G.anc = [[0], [1, 0], [2, 0], [3, 0], [4, 0]]) (st : Sto) : runFn G (P_law_refusal 3 2 1 4) [.exc 1 .non] st = .ok (.str "prime") st := by
  apply WO_eq
  unfold P_law_refusal
  fail "run"
  exact ⟨rfl, rfl⟩
theorem ref_N (G : Sig) (hA : G.anc = [[0], [1, 0], [2, 0], [3, 0], [4, 0]]) (st : Sto) : runFn G (P_law_refusal 3 2 1 4) [.exc 2 .non] st = .ok (.str "number") st := by
  apply WO_eq
  unfold P_law_refusal
  fail "run"
  exact ⟨rfl, rfl⟩
theorem ref_M (G : Sig) (hA : G.anc = [[0], [1, 0], [2, 0], [3, 0], [4, 0]]) (st : Sto) : runFn G (P_law_refusal 3 2 1 4) [.exc 3 .non] st = .ok (.str "matrix") st := by
  apply WO_eq
  unfold P_law_refusal
  fail "run"
  exact ⟨rfl, rfl⟩
theorem ref_F (G : Sig) (hA : G.anc = [[0], [1, 0], [2, 0], [3, 0], [4, 0]]) (st : Sto) : runFn G (P_law_refusal 3 2 1 4) [.exc 4 .non] st = .ok (.str "fit") st := by
  apply WO_eq
  unfold P_law_refusal
  fail "run"
  exact ⟨rfl, rfl⟩
abbrev ToldS (G : Sig) (f : Nat) : Prop := ∀ {way : Int} {n x y q : PV} {st : Sto}, 0 ≤ way → way < 4 → pl n = true → isDat x = true → isDat y = true → pl q = true → G.call f [.int way, n, x, y, q] st = .ok (toldV way n x y q) st
theorem told_s (G : Sig) (fp fs ft fl fr cR cP cN cM cF : Nat) (hp : ProductC G fp cP cM cF) (hs : PlusC G fs cP cM cF) (ht : TimesC G ft cP cN cM) (hl : FlipC G fl cP cM)
    (rP : RefS G fr cP "prime") (rN : RefS G fr cN "number") (rM : RefS G fr cM "matrix") (rF : RefS G fr cF "fit") (aP : G.anc[cP]? = some [cP, cR]) (aN : G.anc[cN]? = some [cN, cR]) (aM : G.anc[cM]? = some [cM, cR]) (aF : G.anc[cF]? = some [cF, cR])
    {way : Int} {n x y q : PV} {st : Sto} (w0 : 0 ≤ way) (w1 : way < 4) (hn : pl n = true) (dx : isDat x = true) (dy : isDat y = true) (hq : pl q = true) : runFn G (P_law_told fp fs ft fl fr cR) [.int way, n, x, y, q] st = .ok (toldV way n x y q) st := by
  apply WO_eq
  unfold P_law_told
  have w : way = 0 ∨ way = 1 ∨ way = 2 ∨ way = 3 := by omega
  have kx := keep_dat dx
  have ky := keep_dat dy
  have kq := keep_pl hq
  have kn := keep_pl hn
  rcases w with rfl | rfl | rfl | rfl
  · fail "run"
    apply hp dx dy hq
    · intro h; fail "go"; exact ⟨by simp [toldV, h], rfl⟩
    · intro h h2; fail "go"; exact ⟨by simp [toldV, h, h2], rfl⟩
    · intro h h2 h3 h4; fail "go"; exact ⟨by simp [toldV, h, h2, h3, h4], rfl⟩
    · intro h h2 h3 h4; fail "go"; exact ⟨by simp [toldV, h, h2, h3, h4], rfl⟩
  · fail "run"
    apply hs dx dy hq
    · intro h; fail "go"; exact ⟨by simp [toldV, h], rfl⟩
    · intro h h2; fail "go"; exact ⟨by simp [toldV, h, h2], rfl⟩
    · intro h h2 h3 h4; fail "go"; exact ⟨by simp [toldV, h, h2, h3]; intro a b; exact absurd ⟨a, b⟩ h4, rfl⟩
    · intro h h2 h3 h4 h5; fail "go"; exact ⟨by simp [toldV, h, h2, h3, h4, h5], rfl⟩
  · fail "run"
    apply ht hn dx hq
    · intro h; fail "go"; exact ⟨by simp [toldV, h], rfl⟩
    · intro h h2; fail "go"; exact ⟨by simp [toldV, h, h2], rfl⟩
    · intro h h2 h3; fail "go"; exact ⟨by simp [toldV, h, h2, h3], rfl⟩
    · intro h h2 h3; fail "go"; exact ⟨by simp [toldV, h, h2, h3], rfl⟩
  · fail "run"
    apply hl dx hq
    · intro h; fail "go"; exact ⟨by simp [toldV, h], rfl⟩
    · intro h h2; fail "go"; exact ⟨by simp [toldV, h, h2], rfl⟩
    · intro h h2; fail "go"; exact ⟨by simp [toldV, h, h2], rfl⟩
/-! sums by places -/
theorem irg_at {α : Type} [Inhabited α] (xs : List α) {n : Int} (h : (xs.length : Int) = n) : (irg 0 n).map (at_ xs) = xs := by
  apply List.ext_getElem
  · rw [List.length_map, irg_len]; omega
  · intro i h1 h2
    rw [List.getElem_map, irg_get, at_get (by omega)]
    congr 1
    omega
theorem zip_map_irg {α β : Type} [Inhabited α] [Inhabited β] (xs : List α) (ys : List β) {n : Int} (h : (xs.length : Int) = n) (h2 : (ys.length : Int) = n) : xs.zip ys = (irg 0 n).map fun k => (at_ xs k, at_ ys k) := by
  conv => lhs; rw [← irg_at xs h, ← irg_at ys h2]
  rw [List.zip_map']
theorem at_map {α β : Type} [Inhabited α] [Inhabited β] (f : α → β) {xs : List α} {k : Int} (h0 : 0 ≤ k) (h : k < xs.length) : at_ (xs.map f) k = f (at_ xs k) := by
  rw [at_get (by rw [List.length_map]; omega), at_get (by omega), List.getElem_map]
theorem at_irg {n k : Int} (h0 : 0 ≤ k) (h : k < n) : at_ (irg 0 n) k = k := by
  rw [at_get (by rw [irg_len]; omega), irg_get]; omega
theorem dot_irg {p n : Int} {x y : List Int} (h : (x.length : Int) = n) (h2 : (y.length : Int) = n) : dot p x y = (((irg 0 n).map fun k => at_ x k * at_ y k).sum).fmod p := by
  unfold dot
  rw [zip_map_irg x y h h2, List.map_map]; rfl
theorem mul_irg {p r m c : Int} {A B : List (List Int)} (h : Mx p r m A) (h2 : Mx p m c B) : mulM p c A B = A.map fun row => (irg 0 c).map fun j => (((irg 0 m).map fun k => at_ row k * at_ (at_ B k) j).sum).fmod p := by
  unfold mulM flipM
  refine List.map_congr_left fun row hr => ?_
  rw [List.map_map]
  refine List.map_congr_left fun j hj => ?_
  show dot p row _ = _
  rw [dot_irg (h.wid row hr) (by rw [List.length_map]; exact h2.len)]
  congr 2
  refine List.map_congr_left fun k hk => ?_
  rw [mem_irg] at hk
  rw [at_map _ hk.1 (by rw [h2.len]; exact hk.2)]
abbrev LTimesS (G : Sig) (f : Nat) : Prop := ∀ {p r m c : Int} {A B : List (List Int)} {st : Sto}, 2 ≤ p → p ≤ 97 → Mx p r m A → Mx p m c B → G.call f [mat r m A, mat m c B, .int p] st = .ok (mat r c (mulM p c A B)) st
theorem ltimes_s (G : Sig) (st : Sto) {p r m c : Int} {A B : List (List Int)} (p0 : 2 ≤ p) (p1 : p ≤ 97) (h : Mx p r m A) (h2 : Mx p m c B) : runFn G P_law_times [mat r m A, mat m c B, .int p] st = .ok (mat r c (mulM p c A B)) st := by
  apply WO_eq
  unfold P_law_times
  fail "run"
  have := h.c0
  have := h.c1
  have := h2.c0
  have := h2.c1
  have lB := h2.len
  refine WS_for (xs := A) (e := iT) (fun pre fr s => s = st ∧ ∃ x y z w, fr = [va (mat r m A), va (mat m c B), va (.int p), ow ((pre.map fun row => (irg 0 c).map fun j => (((irg 0 m).map fun k => at_ row k * at_ (at_ B k) j).sum).fmod p).map iT), x, y, z, w]) ?_ ?_ ?_ ?_
  · fail "ei"
  · exact ⟨rfl, _, _, _, _, rfl⟩
  · rintro pre row post fr s e ⟨rfl, x, y, z, w, rfl⟩
    have hm : row ∈ A := by rw [e]; simp
    have hl := h.wid row hm
    have hle : (pre.length : Int) ≤ 2000 := pre_le e h.len h.r1
    have hr : ∀ k, 0 ≤ k → k < m → 0 ≤ at_ row k ∧ at_ row k < 97 := fun k k0 k1 => by
      have := h.rng row hm _ (at_mem k0 (by rw [hl]; exact k1))
      omega
    have hb : ∀ k, 0 ≤ k → k < m → ((at_ B k).length : Int) = c := fun k k0 k1 => h2.wid _ (at_mem k0 (by rw [lB]; exact k1))
    refine ⟨_, by fail "as", ?_⟩
    fail "go"
    exact ⟨rfl, _, _, _, _, by simp; exact ⟨rfl, rfl, rfl, rfl⟩⟩
  · rintro fr s ⟨rfl, x, y, z, w, rfl⟩
    fail "go"
    exact ⟨by rw [mul_irg h h2], rfl⟩
end Rq
set_option Elab.async false
set_option linter.all false
set_option maxRecDepth 100000
set_option maxHeartbeats 4000000
/-! The law of products, k03: what is due, wrong numbers. -/
namespace Rq
open PySem PySem.Spec Rm Rp
local macro_rules | `(tactic| fail "nf") => `(tactic| ((try simp only [wipeF, List.set_cons_succ, List.set_cons_zero, List.cons_append, List.nil_append]); exact rfl))
local macro_rules | `(tactic| fail "as") => `(tactic| focus (first
  | (with_reducible refine' asg_nm ?a ?b); (case a => exact of_decide_eq_true rfl); (case b => fail "nf")
  | with_reducible exact asgL_nil
  | (with_reducible refine' asgL_cons ?a ?b); (case a => fail "as"); (case b => fail "as")
  | (with_reducible refine' asg_tp ?a); (case a => fail "as")
  | (apply asg_tp); fail "as"))
local macro_rules | `(tactic| fail "side") => `(tactic| first
  | with_reducible assumption
  | omega
  | exact rfl
  | assumption
  | (simp only [mem_irg, List.length_map, irg_len] at *; first | omega | (simp [*]; done) | (simp [*]; omega) | grind)
  | decide
  | grind)
local macro_rules | `(tactic| fail "keep") => `(tactic| first
  | with_reducible assumption
  | exact rfl
  | (exact keep_dat (by with_reducible assumption))
  | (exact keep_pl (by with_reducible assumption))
  | (simp [keepAll, *]; done))
local macro_rules | `(tactic| fail "op") => `(tactic| first
  | with_reducible exact sub_int
  | with_reducible exact add_int
  | with_reducible exact eq_int
  | with_reducible exact ne_int
  | with_reducible exact lt_int
  | with_reducible exact le_int
  | with_reducible exact gt_int
  | with_reducible exact ge_int
  | with_reducible exact sum_map
  | with_reducible exact sum_ints
  | with_reducible exact all_map
  | with_reducible exact any_map
  | with_reducible exact len_map
  | with_reducible exact eq_two
  | with_reducible exact ne_two
  | with_reducible exact cut_23
  | with_reducible exact idx0
  | with_reducible exact idx1
  | with_reducible exact idx2
  | (with_reducible refine' mul_int ?a); (case a => (first | left; fail "sml" | right; fail "sml"))
  | (with_reducible refine' mod_int ?a); (case a => fail "side")
  | (with_reducible refine' div_int ?a ?b); (case a => fail "side"); (case b => fail "side")
  | (with_reducible refine' idx_map ?a ?b); (case a => fail "side"); (case b => fail "side")
  | (with_reducible refine' add_map ?a); (case a => fail "side")
  | (with_reducible refine' add_seq ?a); (case a => fail "side")
  | (with_reducible refine' rep_one ?a ?b); (case a => fail "side"); (case b => fail "side")
  | with_reducible assumption
  | with_reducible exact cut_map
  | with_reducible exact cut_raw
  | exact rfl
  | (with_reducible refine' idx_raw ?a ?b); (case a => fail "side"); (case b => fail "side")
  | (simp only [isiAny, isiF, *]; exact rfl))
local macro_rules | `(tactic| fail "sml") => `(tactic| (first | exact rfl | (refine sml ?_ ?_ <;> fail "side")))
local macro_rules | `(tactic| fail "ev") => `(tactic| focus (first
  | (with_reducible refine' EV_var ?a); (case a => exact rfl)
  | with_reducible exact EV_cst
  | (with_reducible refine' EV_loc ?a); (case a => exact rfl)
  | (with_reducible refine' EV_glb ?a); (case a => with_reducible assumption)
  | (with_reducible refine' EV_neg ?a); (case a => fail "ev")
  | (with_reducible refine' EV_not ?a ?b); (case a => fail "ed"); (case b => fail "op")
  | (with_reducible refine' EV_bin ?a ?b ?c); (case a => fail "ed"); (case b => fail "ed"); (case c => fail "op")
  | (with_reducible refine' EV_cmp ?a ?b ?c); (case a => fail "ed"); (case b => fail "ed"); (case c => fail "op")
  | (with_reducible refine' EV_chn ?a ?b ?c ?d ?e); (case a => fail "ed"); (case b => fail "ed"); (case c => fail "op"); (case d => fail "ed"); (case e => fail "op")
  | (with_reducible refine' EV_and ?a); (case a => fail "ea")
  | (with_reducible refine' EV_or ?a); (case a => fail "er")
  | (with_reducible refine' EV_iteT ?a ?b ?c); (case a => fail "ed"); (case b => (first | exact rfl | exact congrArg some (by with_reducible assumption))); (case c => fail "ev")
  | (with_reducible refine' EV_iteF ?a ?b ?c); (case a => fail "ed"); (case b => (first | exact rfl | exact congrArg some (by with_reducible assumption))); (case c => fail "ev")
  | (with_reducible refine' EV_ite ?a ?b ?c ?d); (case a => fail "ed"); (case b => fail "op"); (case c => intro _; fail "ev"); (case d => intro _; fail "ev")
  | (with_reducible refine' EV_tup ?a ?b ?c); (case a => fail "el"); (case b => fail "keep"); (case c => exact fits_lit rfl)
  | (with_reducible refine' EV_lst ?a ?b ?c); (case a => fail "el"); (case b => fail "keep"); (case c => exact fits_lit rfl)
  | (with_reducible refine' EV_sub ?a ?b ?c); (case a => fail "ed"); (case b => fail "ev"); (case c => fail "op")
  | (with_reducible refine' EV_slc ?a ?b ?c ?d); (case a => fail "ed"); (case b => fail "eo"); (case c => fail "eo"); (case d => fail "op")
  | (with_reducible refine' EV_rev ?a ?b); (case a => fail "ed"); (case b => fail "op")
  | (with_reducible refine' EV_call ?a ?b ?c); (case a => fail "el"); (case b => fail "keep"); (case c => fail "call")
  | (with_reducible refine' EV_blt ?a ?b); (case a => fail "edl"); (case b => fail "op")
  | (with_reducible refine' EV_isi ?a ?b); (case a => fail "ed"); (case b => fail "op")
  | (with_reducible refine' EV_idx ?a ?b ?c); (case a => fail "ed"); (case b => fail "ed"); (case c => fail "op")
  | (with_reducible refine' EV_cnt ?a ?b ?c); (case a => fail "ed"); (case b => fail "ed"); (case c => fail "op")
  | (with_reducible refine' EV_comp ?a ?b ?c ?d); (case a => fail "ei"); (case b => intro _ _; fail "as"); (case c => intro _ _; fail "ev"); (case d => intro _ _; fail "keep")
  | (with_reducible refine' EV_compR ?a ?b ?c ?d); (case a => fail "ei"); (case b => intro _ _; fail "as"); (case c => intro _ _; fail "ev"); (case d => intro _ _; fail "keep")
  | (with_reducible refine' EV_compF ?a ?b ?c ?d ?e ?f ?g); (case a => fail "ei"); (case b => intro _ _; fail "as"); (case c => intro _ _; fail "ed"); (case d => intro _ _; fail "op"); (case e => intro _ _ _; fail "ev"); (case f => intro _ _ _; fail "keep"); (case g => intro _; contradiction)
  | (with_reducible refine' EV_compFR ?a ?b ?c ?d ?e ?f ?g); (case a => fail "ei"); (case b => intro _ _; fail "as"); (case c => intro _ _; fail "ed"); (case d => intro _ _; fail "op"); (case e => intro _ _ _; fail "ev"); (case f => intro _ _ _; fail "keep"); (case g => intro _; contradiction)
  | (with_reducible refine' EV_compU ?a ?b ?c); (case a => fail "eu"); (case b => (fail "nf")); (case c => fail "cu")
  | (with_reducible refine' EV_comp2 ?a ?b ?c ?d ?e ?f ?g); (case a => fail "ei"); (case b => intro _ _; fail "as"); (case c => intro _ _; fail "ei"); (case d => intro _ _ _ _; fail "as"); (case e => intro _ _ _ _; fail "ev"); (case f => intro _ _ _ _; fail "keep"); (case g => fail "side")))
local macro_rules | `(tactic| fail "eu") => `(tactic| focus (first
  | (with_reducible refine' EI_ER ?a ?b ?c); (case a => fail "ev"); (case b => exact rfl); (case c => (simp only [enumF]; exact rfl))
  | (with_reducible refine' EI_S ?a ?b); (case a => fail "ev"); (case b => exact rfl)
  | with_reducible exact EI_Rl1
  | with_reducible exact EI_Rl2
  | with_reducible exact EI_Rl3
  | with_reducible exact EI_Rl4
  | with_reducible exact EI_Rl5
  | with_reducible exact EI_Rl6))
local macro_rules | `(tactic| fail "cu") => `(tactic| focus (first
  | with_reducible exact CU_nil
  | (with_reducible refine' CU_all ?a ?b ?c ?d); (case a => fail "as"); (case b => fail "ev"); (case c => fail "keep"); (case d => fail "cu")
  | (with_reducible refine' CU_yes ?a ?b ?c ?d ?e ?f ?g); (case a => fail "as"); (case b => fail "ed"); (case c => (first | exact rfl | (simp [truF, *]; done))); (case d => (intro _; contradiction)); (case e => fail "ev"); (case f => fail "keep"); (case g => fail "cu")
  | (with_reducible refine' CU_no ?a ?b ?c ?d ?e); (case a => fail "as"); (case b => fail "ed"); (case c => (first | exact rfl | (simp [truF, *]; done))); (case d => (intro _; contradiction)); (case e => fail "cu")))
local macro_rules | `(tactic| fail "ed") => `(tactic| focus (first
  | (with_reducible refine' ED_own ?a); (case a => exact rfl)
  | (with_reducible refine' ED_ref ?a ?b); (case a => exact rfl); (case b => exact rfl)
  | (with_reducible refine' ED_ev ?a ?b); (case a => fail "ev"); (case b => (first | with_reducible assumption | exact rfl | exact flat_dat (by with_reducible assumption) | exact flat_pl (by with_reducible assumption)))))
local macro_rules | `(tactic| fail "ea") => `(tactic| focus (first
  | (with_reducible refine' EA_one ?a); (case a => fail "ev")
  | (with_reducible refine' EA_F ?a ?b); (case a => fail "ev"); (case b => (first | exact rfl | with_reducible assumption))
  | (with_reducible refine' EA_cons ?a ?b); (case a => fail "ev"); (case b => intro _; fail "ea")))
local macro_rules | `(tactic| fail "er") => `(tactic| focus (first
  | (with_reducible refine' ER_one ?a); (case a => fail "ev")
  | (with_reducible refine' ER_T ?a ?b); (case a => fail "ev"); (case b => (first | exact rfl | with_reducible assumption))
  | (with_reducible refine' ER_cons ?a ?b); (case a => fail "ev"); (case b => intro _; fail "er")))
local macro_rules | `(tactic| fail "el") => `(tactic| focus (first
  | with_reducible exact EL_nn
  | (with_reducible refine' EL_cons ?a ?b); (case a => fail "ev"); (case b => fail "el")
  | (with_reducible refine' EL_nc ?a ?b); (case a => fail "ev"); (case b => fail "el")))
local macro_rules | `(tactic| fail "edl") => `(tactic| focus (first
  | with_reducible exact EDL_nil
  | (with_reducible refine' EDL_cons ?a ?b); (case a => fail "ed"); (case b => fail "edl")))
local macro_rules | `(tactic| fail "eo") => `(tactic| focus (first
  | with_reducible exact EO_nil
  | (with_reducible refine' EO_ev ?a); (case a => fail "ev")))
local macro_rules | `(tactic| fail "ei") => `(tactic| focus (first
  | (with_reducible refine' EI_R1 ?a ?b ?c); (case a => fail "ev"); (case b => fail "side"); (case c => fail "side")
  | (with_reducible refine' EI_R2 ?a ?b ?c ?d ?e ?f ?g); (case a => fail "ev"); (case b => fail "ev"); (case c => fail "side"); (case d => fail "side"); (case e => fail "side"); (case f => fail "side"); (case g => fail "side")
  | (with_reducible refine' EI_E ?a ?b); (case a => fail "ev"); (case b => exact rfl)
  | (with_reducible refine' EI_Z ?a ?b ?c ?d); (case a => fail "ev"); (case b => fail "ev"); (case c => exact rfl); (case d => exact rfl)
  | (with_reducible refine' EI_ZS ?a ?b ?c ?d ?e); (case a => fail "ev"); (case b => fail "ev"); (case c => exact rfl); (case d => exact rfl); (case e => fail "side")
  | (with_reducible refine' EI_S ?a ?b); (case a => fail "ev"); (case b => exact rfl)))
local macro_rules | `(tactic| fail "call") => `(tactic| (apply_assumption (exfalso := false) <;> fail "side"))
local macro_rules | `(tactic| fail "wo") => `(tactic| first
  | (with_reducible refine' WO_ev ?a ?_); (case a => fail "ev")
  | (with_reducible refine' WO_call ?a ?b ?_); (case a => fail "el"); (case b => fail "keep")
  | with_reducible refine' WO_callG ?_
  | with_reducible refine' WO_nil ?_
  | (with_reducible refine' WO_elL ?a ?_); (case a => fail "el")
  | (with_reducible refine' WO_iteT ?a ?b ?_); (case a => fail "ed"); (case b => (first | exact rfl | exact congrArg some (by with_reducible assumption)))
  | (with_reducible refine' WO_iteF ?a ?b ?_); (case a => fail "ed"); (case b => (first | exact rfl | exact congrArg some (by with_reducible assumption)))
  | with_reducible refine' WO_cons ?_
  | with_reducible refine' WO_tup ?_
  | with_reducible refine' WO_lst ?_
  | with_reducible refine' WO_bin ?_
  | with_reducible refine' WO_cmp ?_
  | with_reducible refine' WO_not ?_
  | with_reducible refine' WO_sub ?_
  | with_reducible refine' WO_blt ?_
  | with_reducible refine' WO_and ?_
  | with_reducible refine' WO_or ?_
  | with_reducible refine' WO_Acons ?_
  | with_reducible refine' WO_Rcons ?_
  | with_reducible refine' WO_Anil ?_
  | with_reducible refine' WO_Rnil ?_
  | (with_reducible refine' WO_of ?a ?_); (case a => fail "op"))
local macro_rules | `(tactic| fail "ws") => `(tactic| first
  | with_reducible refine' WS_nop ?_
  | with_reducible refine' WS_doc ?_
  | with_reducible refine' WS_seq ?_
  | (with_reducible refine' WS_frz ?a ?_); (case a => exact rfl)
  | with_reducible refine' WS_set ?_
  | (with_reducible refine' WS_setF ?a ?b ?_); (case a => fail "keep"); (case b => exact of_decide_eq_true rfl)
  | with_reducible refine' WS_own ?_
  | (with_reducible refine' WS_ownF ?a ?_); (case a => exact of_decide_eq_true rfl)
  | with_reducible refine' WS_tgt ?_
  | with_reducible refine' WS_par ?_
  | with_reducible refine' WS_par3 ?_
  | (with_reducible refine' WS_aug ?a ?_); (case a => exact rfl)
  | (with_reducible refine' WS_app ?a ?_); (case a => exact rfl)
  | (with_reducible refine' WS_sto ?a ?_); (case a => exact rfl)
  | (with_reducible refine' WS_swp ?a ?_); (case a => exact rfl)
  | (with_reducible refine' WS_ins ?a ?_); (case a => exact rfl)
  | with_reducible refine' WS_xpr ?_
  | with_reducible refine' WS_ret ?_
  | with_reducible refine' WS_retN ?_
  | with_reducible refine' WS_retF ?_
  | with_reducible refine' WS_brk ?_
  | with_reducible refine' WS_cnt ?_
  | with_reducible refine' WS_rse ?_
  | with_reducible refine' WS_try ?_
  | (with_reducible refine' WS_iteT ?a ?b ?_); (case a => fail "ed"); (case b => (first | exact rfl | exact congrArg some (by with_reducible assumption)))
  | (with_reducible refine' WS_iteF ?a ?b ?_); (case a => fail "ed"); (case b => (first | exact rfl | exact congrArg some (by with_reducible assumption)))
  | fail "wo")
local macro_rules | `(tactic| fail "mk") => `(tactic| first
  | (with_reducible refine' EX_in ?a ?b ?c ?d ?_); (case a => (first | with_reducible assumption | exact rfl)); (case b => (first | exact rfl | (simp; done))); (case c => exact of_decide_eq_true rfl); (case d => exact rfl)
  | (with_reducible refine' KP_mk ?a ?_); (case a => fail "keep")
  | (with_reducible refine' NF_mk ?a ?_); (case a => fail "nf")
  | (with_reducible refine' AS_mk ?a ?_); (case a => fail "as")
  | (with_reducible refine' KA_mk ?a ?b ?_); (case a => fail "keep"); (case b => exact rfl)
  | with_reducible refine' KL_0 ?_
  | (with_reducible refine' KL_1 ?a ?_); (case a => fail "keep")
  | (with_reducible refine' KL_2 ?a ?_); (case a => fail "keep")
  | (with_reducible refine' KL_3 ?a ?_); (case a => fail "keep")
  | (with_reducible refine' KL_4 ?a ?_); (case a => fail "keep")
  | (with_reducible refine' KL_5 ?a ?_); (case a => fail "keep")
  | (with_reducible refine' L3_mk ?a ?b ?c ?_); (case a => exact of_decide_eq_true rfl); (case b => exact of_decide_eq_true rfl); (case c => exact of_decide_eq_true rfl)
  | (with_reducible refine' L2_mk ?a ?b ?_); (case a => exact of_decide_eq_true rfl); (case b => exact of_decide_eq_true rfl)
  | (with_reducible refine' OF_mk ?a ?_); (case a => fail "op")
  | (with_reducible refine' SZ_mk ?a ?_); (case a => fail "side"))
local macro_rules | `(tactic| fail "if") => `(tactic| first
  | (with_reducible refine' WS_ite ?a ?b ?_ ?_); (case a => fail "ed"); (case b => fail "op")
  | (with_reducible refine' WO_ifE ?a ?b ?_ ?_); (case a => fail "ed"); (case b => fail "op")
  | with_reducible refine' WS_iteG ?_
  | with_reducible refine' WO_ite ?_)
local macro_rules | `(tactic| fail "go") => `(tactic| repeat (first | fail "ws" | fail "mk"))
local macro_rules | `(tactic| fail "run") => `(tactic| (apply WO_run; exact rfl; (first | (simp only [startF, List.map_cons, List.map_nil, List.cons_append, List.nil_append, List.append_nil, List.length_cons, List.length_nil, Nat.reduceAdd, Nat.reduceSub, List.reduceReplicate]; done) | (simp only [startF, List.map_cons, List.map_nil, List.cons_append, List.nil_append, List.append_nil, List.length_cons, List.length_nil, Nat.reduceAdd, Nat.reduceSub, List.reduceReplicate]; exact rfl)); fail "go"))
theorem toldV_0 {n y : PV} {p r m c r2 : Int} {A B : List (List Int)} (hp : isP p = true) (h : Mx p r m A) (h2 : Mx p r2 c B) : toldV 0 n (mat r m A) (mat r2 c B) (.int p) = if m = r2 then mat r c (mulM p c A B) else .str "fit" := by
  have e : isPr (.int p) = true := hp
  simp [toldV, e, iv, mat_mt h, mat_mt h2, dM_mat, dr, dc]
theorem toldV_1 {n : PV} {p r c r2 c2 : Int} {A B : List (List Int)} (hp : isP p = true) (h : Mx p r c A) (h2 : Mx p r2 c2 B) : toldV 1 n (mat r c A) (mat r2 c2 B) (.int p) = if r = r2 ∧ c = c2 then mat r c (addM p A B) else .str "fit" := by
  have e : isPr (.int p) = true := hp
  simp [toldV, e, iv, mat_mt h, mat_mt h2, dM_mat, dr, dc]
theorem toldV_2 {y : PV} {n p r c : Int} {A : List (List Int)} (hp : isP p = true) (h : Mx p r c A) : toldV 2 (.int n) (mat r c A) y (.int p) = mat r c (scaM p n A) := by
  have e : isPr (.int p) = true := hp
  simp [toldV, e, iv, isWh, mat_mt h, dM_mat, dr, dc, unI]
theorem toldV_3 {y n : PV} {p r c : Int} {A : List (List Int)} (hp : isP p = true) (h : Mx p r c A) : toldV 3 n (mat r c A) y (.int p) = mat c r (flipM c A) := by
  have e : isPr (.int p) = true := hp
  simp [toldV, e, iv, mat_mt h, dM_mat, dr, dc]
abbrev DueS (G : Sig) (f : Nat) : Prop := ∀ {way n p r c r2 c2 : Int} {A B : List (List Int)} {st : Sto}, 0 ≤ way → way < 4 → isP p = true → Mx p r c A → Mx p r2 c2 B → G.call f [.int way, .int n, mat r c A, mat r2 c2 B, .int p] st = .ok (toldV way (.int n) (mat r c A) (mat r2 c2 B) (.int p)) st
theorem due_s (G : Sig) (f : Nat) (hf : LTimesS G f) {way n p r c r2 c2 : Int} {A B : List (List Int)} {st : Sto} (w0 : 0 ≤ way) (w1 : way < 4) (hp : isP p = true) (h : Mx p r c A) (h2 : Mx p r2 c2 B) : runFn G (P_law_due f) [.int way, .int n, mat r c A, mat r2 c2 B, .int p] st = .ok (toldV way (.int n) (mat r c A) (mat r2 c2 B) (.int p)) st := by
  obtain ⟨p0, p1⟩ := isP_rng hp
  have w : way = 0 ∨ way = 1 ∨ way = 2 ∨ way = 3 := by omega
  have := h.c0
  have := h.c1
  have hr : ∀ row ∈ A, ∀ a ∈ row, 0 ≤ a ∧ a < p := h.rng
  have hw : ∀ row ∈ A, (row.length : Int) = c := h.wid
  apply WO_eq
  unfold P_law_due
  rcases w with rfl | rfl | rfl | rfl
  · rw [toldV_0 (y := .non) hp h h2]
    fail "run"
    fail "if"
    · intro e
      simp at e
      subst e
      fail "go"
      exact ⟨by simp, rfl⟩
    · intro e
      simp at e
      fail "go"
      exact ⟨by simp [e], rfl⟩
  · rw [toldV_1 hp h h2]
    fail "run"
    fail "if"
    · intro e
      have e : ¬ (r = r2 ∧ c = c2) := by simp at e; rintro ⟨a, b⟩; rcases e with e | e <;> contradiction
      fail "go"
      exact ⟨by rw [if_neg e], rfl⟩
    · intro e
      have e : r = r2 ∧ c = c2 := by simpa using e
      fail "go"
      exact ⟨by simp [e, addM], rfl⟩
  · rw [toldV_2 hp h]
    fail "run"
    exact ⟨by simp [scaM], rfl⟩
  · rw [toldV_3 hp h]
    fail "run"
    exact ⟨by simp [flipM, Function.comp_def], rfl⟩
/-! wrong numbers -/
theorem areDat_app : ∀ {xs ys : List PV}, areDat (xs ++ ys) = (areDat xs && areDat ys)
  | [], ys => by simp [areDat]
  | x :: xs, ys => by simp only [List.cons_append, areDat, areDat_app, Bool.and_assoc]
theorem rows_dat (M : List (List Int)) : areDat (M.map iT) = true := dat_all fun x hx => by
  obtain ⟨row, _, rfl⟩ := List.mem_map.mp hx
  exact ints_dat row
theorem rw_bad {c p : Int} {xs : List PV} {y : PV} (h : y ∈ xs) (hy : isNm p y = false) : isRw c p (.seq true xs) = false := by
  cases e : isRw c p (.seq true xs) with
  | false => rfl
  | true =>
    simp only [isRw, Bool.and_eq_true, List.all_eq_true] at e
    rw [e.2 y h] at hy
    cases hy
theorem mt_bad {p : Int} {a b : PV} {rows : List PV} {row : PV} (h : row ∈ rows) (hr : ∀ {c}, isRw c p row = false) : isMt p (.seq true [a, b, .seq true rows]) = false := by
  cases e : isMt p (.seq true [a, b, .seq true rows]) with
  | false => rfl
  | true =>
    cases a <;> cases b <;> first | exact nomatch (show false = true from e) | skip
    simp only [isMt, Bool.and_eq_true, List.all_eq_true] at e
    exact absurd (e.2 row h) (by rw [hr]; decide)
abbrev WrongC (G : Sig) (f : Nat) : Prop := ∀ {n : Nat} {p r c : Int} {M : List (List Int)} {st : Sto} {A : PV → Sto → Prop} {X : Nat → PV → Sto → Prop}, Pen n st → 4 ≤ n → 2 ≤ p → p ≤ 97 → Mx p r c M → r ≤ 12 → c ≤ 12 →
  (∀ st', Pen (n - 4) st' → A .non st') → (∀ w st', Pen (n - 4) st' → isDat w = true → isMt p w = false → A (.seq true [w]) st') → WO (G.call f [.ref 0, .seq true [mat r c M], .int p] st) A X
theorem wrong_c (G : Sig) (fo ft : Nat) (ho : OneC G fo) (ht : TakeC G ft) {n : Nat} {p r c : Int} {M : List (List Int)} {st : Sto} {A : PV → Sto → Prop} {X : Nat → PV → Sto → Prop} (hp : Pen n st) (hn : 4 ≤ n) (p0 : 2 ≤ p) (p1 : p ≤ 97) (h : Mx p r c M) (hr : r ≤ 12) (hc : c ≤ 12)
    (k1 : ∀ st', Pen (n - 4) st' → A .non st') (k2 : ∀ w st', Pen (n - 4) st' → isDat w = true → isMt p w = false → A (.seq true [w]) st') : WO (runFn G (P_law_wrong_number fo ft) [.ref 0, .seq true [mat r c M], .int p] st) A X := by
  unfold P_law_wrong_number
  have := h.r0
  have := h.c0
  by_cases hz : 0 < r * c
  · have hr0 : 0 < r := by
      rcases Int.lt_or_eq_of_le h.r0 with q | q
      · exact q
      · rw [← q] at hz; simp at hz
    have hc0 : 0 < c := by
      rcases Int.lt_or_eq_of_le h.c0 with q | q
      · exact q
      · rw [← q] at hz; simp at hz
    have lM := h.len
    fail "run"
    refine ho hp (by omega) (by simp) (by simp) rfl fun a st1 hp1 ha => ?_
    obtain rfl : a = .int 0 := by simpa using ha
    fail "go"
    refine ht hp1 (by omega) (by omega) (by omega) fun d st2 hp2 d0 d1 => ?_
    fail "go"
    refine ht hp2 (by omega) (by omega) (by omega) fun k st3 hp3 q0 q1 => ?_
    refine KP_mk rfl (KP_mk rfl ⟨of_decide_eq_true rfl, of_decide_eq_true rfl, ?_⟩)
    fail "go"
    refine ho hp3 (by omega) (by simp) (by simp) rfl fun odd st4 hp4 ho => ?_
    have dO : isDat odd = true ∧ isNm p odd = false := by
      simp only [List.mem_cons, List.not_mem_nil, or_false] at ho
      rcases ho with rfl | rfl | rfl | rfl | rfl | rfl | rfl <;> refine ⟨by first | rfl | decide +kernel, ?_⟩ <;> simp [isNm] <;> omega
    have kO := keep_dat dO.1
    have hw := h.wid _ (at_mem d0 (by rw [lM]; exact d1))
    have cl := fun lo hi => cut_len lo hi (at_ M d)
    have cl2 := fun lo hi => cut_len lo hi M
    fail "go"
    rw [show cut none (some (0 : Int)) [mat r c M] = [] from rfl, show cut (some ((0 : Int) + 1)) none [mat r c M] = [] from rfl]
    refine k2 _ _ (hp4.le (by omega)) ?_ ?_
    · simp only [isDat, areDat, areDat_app, dO.1, ints_dat, rows_dat, Bool.and_self]
    · exact mt_bad (row := .seq true ((cut none (some k) (at_ M d)).map .int ++ [odd] ++ (cut (some (k + 1)) none (at_ M d)).map .int)) (by simp) (rw_bad (y := odd) (by simp) dO.2)
  · fail "run"
    exact k1 _ (hp.le (by omega))
end Rq
set_option Elab.async false
set_option linter.all false
set_option maxRecDepth 100000
set_option maxHeartbeats 4000000
/-! The law of products, k03: numbers that are none; drawn matrices, by the pen that is left. -/
namespace Rq
open PySem PySem.Spec Rm Rp
local macro_rules | `(tactic| fail "nf") => `(tactic| ((try simp only [wipeF, List.set_cons_succ, List.set_cons_zero, List.cons_append, List.nil_append]); exact rfl))
local macro_rules | `(tactic| fail "as") => `(tactic| focus (first
  | (with_reducible refine' asg_nm ?a ?b); (case a => exact of_decide_eq_true rfl); (case b => fail "nf")
  | with_reducible exact asgL_nil
  | (with_reducible refine' asgL_cons ?a ?b); (case a => fail "as"); (case b => fail "as")
  | (with_reducible refine' asg_tp ?a); (case a => fail "as")
  | (apply asg_tp); fail "as"))
local macro_rules | `(tactic| fail "side") => `(tactic| first
  | with_reducible assumption
  | omega
  | exact rfl
  | assumption
  | (simp only [mem_irg, List.length_map, irg_len] at *; first | omega | (simp [*]; done) | (simp [*]; omega) | grind)
  | decide
  | grind)
local macro_rules | `(tactic| fail "keep") => `(tactic| first
  | with_reducible assumption
  | exact rfl
  | (exact keep_dat (by with_reducible assumption))
  | (exact keep_pl (by with_reducible assumption))
  | (simp [keepAll, *]; done))
local macro_rules | `(tactic| fail "op") => `(tactic| first
  | with_reducible exact sub_int
  | with_reducible exact add_int
  | with_reducible exact eq_int
  | with_reducible exact ne_int
  | with_reducible exact lt_int
  | with_reducible exact le_int
  | with_reducible exact gt_int
  | with_reducible exact ge_int
  | with_reducible exact sum_map
  | with_reducible exact sum_ints
  | with_reducible exact all_map
  | with_reducible exact any_map
  | with_reducible exact len_map
  | with_reducible exact eq_two
  | with_reducible exact ne_two
  | with_reducible exact cut_23
  | with_reducible exact idx0
  | with_reducible exact idx1
  | with_reducible exact idx2
  | (with_reducible refine' mul_int ?a); (case a => (first | left; fail "sml" | right; fail "sml"))
  | (with_reducible refine' mod_int ?a); (case a => fail "side")
  | (with_reducible refine' div_int ?a ?b); (case a => fail "side"); (case b => fail "side")
  | (with_reducible refine' idx_map ?a ?b); (case a => fail "side"); (case b => fail "side")
  | (with_reducible refine' add_map ?a); (case a => fail "side")
  | (with_reducible refine' add_seq ?a); (case a => fail "side")
  | (with_reducible refine' rep_one ?a ?b); (case a => fail "side"); (case b => fail "side")
  | with_reducible assumption
  | with_reducible exact cut_map
  | with_reducible exact cut_raw
  | exact rfl
  | (with_reducible refine' idx_raw ?a ?b); (case a => fail "side"); (case b => fail "side")
  | (simp only [isiAny, isiF, *]; exact rfl))
local macro_rules | `(tactic| fail "sml") => `(tactic| (first | exact rfl | (refine sml ?_ ?_ <;> fail "side")))
local macro_rules | `(tactic| fail "ev") => `(tactic| focus (first
  | (with_reducible refine' EV_var ?a); (case a => exact rfl)
  | with_reducible exact EV_cst
  | (with_reducible refine' EV_loc ?a); (case a => exact rfl)
  | (with_reducible refine' EV_glb ?a); (case a => with_reducible assumption)
  | (with_reducible refine' EV_neg ?a); (case a => fail "ev")
  | (with_reducible refine' EV_not ?a ?b); (case a => fail "ed"); (case b => fail "op")
  | (with_reducible refine' EV_bin ?a ?b ?c); (case a => fail "ed"); (case b => fail "ed"); (case c => fail "op")
  | (with_reducible refine' EV_cmp ?a ?b ?c); (case a => fail "ed"); (case b => fail "ed"); (case c => fail "op")
  | (with_reducible refine' EV_chn ?a ?b ?c ?d ?e); (case a => fail "ed"); (case b => fail "ed"); (case c => fail "op"); (case d => fail "ed"); (case e => fail "op")
  | (with_reducible refine' EV_and ?a); (case a => fail "ea")
  | (with_reducible refine' EV_or ?a); (case a => fail "er")
  | (with_reducible refine' EV_iteT ?a ?b ?c); (case a => fail "ed"); (case b => (first | exact rfl | exact congrArg some (by with_reducible assumption))); (case c => fail "ev")
  | (with_reducible refine' EV_iteF ?a ?b ?c); (case a => fail "ed"); (case b => (first | exact rfl | exact congrArg some (by with_reducible assumption))); (case c => fail "ev")
  | (with_reducible refine' EV_ite ?a ?b ?c ?d); (case a => fail "ed"); (case b => fail "op"); (case c => intro _; fail "ev"); (case d => intro _; fail "ev")
  | (with_reducible refine' EV_tup ?a ?b ?c); (case a => fail "el"); (case b => fail "keep"); (case c => exact fits_lit rfl)
  | (with_reducible refine' EV_lst ?a ?b ?c); (case a => fail "el"); (case b => fail "keep"); (case c => exact fits_lit rfl)
  | (with_reducible refine' EV_sub ?a ?b ?c); (case a => fail "ed"); (case b => fail "ev"); (case c => fail "op")
  | (with_reducible refine' EV_slc ?a ?b ?c ?d); (case a => fail "ed"); (case b => fail "eo"); (case c => fail "eo"); (case d => fail "op")
  | (with_reducible refine' EV_rev ?a ?b); (case a => fail "ed"); (case b => fail "op")
  | (with_reducible refine' EV_call ?a ?b ?c); (case a => fail "el"); (case b => fail "keep"); (case c => fail "call")
  | (with_reducible refine' EV_blt ?a ?b); (case a => fail "edl"); (case b => fail "op")
  | (with_reducible refine' EV_isi ?a ?b); (case a => fail "ed"); (case b => fail "op")
  | (with_reducible refine' EV_idx ?a ?b ?c); (case a => fail "ed"); (case b => fail "ed"); (case c => fail "op")
  | (with_reducible refine' EV_cnt ?a ?b ?c); (case a => fail "ed"); (case b => fail "ed"); (case c => fail "op")
  | (with_reducible refine' EV_comp ?a ?b ?c ?d); (case a => fail "ei"); (case b => intro _ _; fail "as"); (case c => intro _ _; fail "ev"); (case d => intro _ _; fail "keep")
  | (with_reducible refine' EV_compR ?a ?b ?c ?d); (case a => fail "ei"); (case b => intro _ _; fail "as"); (case c => intro _ _; fail "ev"); (case d => intro _ _; fail "keep")
  | (with_reducible refine' EV_compF ?a ?b ?c ?d ?e ?f ?g); (case a => fail "ei"); (case b => intro _ _; fail "as"); (case c => intro _ _; fail "ed"); (case d => intro _ _; fail "op"); (case e => intro _ _ _; fail "ev"); (case f => intro _ _ _; fail "keep"); (case g => intro _; contradiction)
  | (with_reducible refine' EV_compFR ?a ?b ?c ?d ?e ?f ?g); (case a => fail "ei"); (case b => intro _ _; fail "as"); (case c => intro _ _; fail "ed"); (case d => intro _ _; fail "op"); (case e => intro _ _ _; fail "ev"); (case f => intro _ _ _; fail "keep"); (case g => intro _; contradiction)
  | (with_reducible refine' EV_compU ?a ?b ?c); (case a => fail "eu"); (case b => (fail "nf")); (case c => fail "cu")
  | (with_reducible refine' EV_comp2 ?a ?b ?c ?d ?e ?f ?g); (case a => fail "ei"); (case b => intro _ _; fail "as"); (case c => intro _ _; fail "ei"); (case d => intro _ _ _ _; fail "as"); (case e => intro _ _ _ _; fail "ev"); (case f => intro _ _ _ _; fail "keep"); (case g => fail "side")))
local macro_rules | `(tactic| fail "eu") => `(tactic| focus (first
  | (with_reducible refine' EI_ER ?a ?b ?c); (case a => fail "ev"); (case b => exact rfl); (case c => (simp only [enumF]; exact rfl))
  | (with_reducible refine' EI_S ?a ?b); (case a => fail "ev"); (case b => exact rfl)
  | with_reducible exact EI_Rl1
  | with_reducible exact EI_Rl2
  | with_reducible exact EI_Rl3
  | with_reducible exact EI_Rl4
  | with_reducible exact EI_Rl5
  | with_reducible exact EI_Rl6))
local macro_rules | `(tactic| fail "cu") => `(tactic| focus (first
  | with_reducible exact CU_nil
  | (with_reducible refine' CU_all ?a ?b ?c ?d); (case a => fail "as"); (case b => fail "ev"); (case c => fail "keep"); (case d => fail "cu")
  | (with_reducible refine' CU_yes ?a ?b ?c ?d ?e ?f ?g); (case a => fail "as"); (case b => fail "ed"); (case c => (first | exact rfl | (simp [truF, *]; done))); (case d => (intro _; contradiction)); (case e => fail "ev"); (case f => fail "keep"); (case g => fail "cu")
  | (with_reducible refine' CU_no ?a ?b ?c ?d ?e); (case a => fail "as"); (case b => fail "ed"); (case c => (first | exact rfl | (simp [truF, *]; done))); (case d => (intro _; contradiction)); (case e => fail "cu")))
local macro_rules | `(tactic| fail "ed") => `(tactic| focus (first
  | (with_reducible refine' ED_own ?a); (case a => exact rfl)
  | (with_reducible refine' ED_ref ?a ?b); (case a => exact rfl); (case b => exact rfl)
  | (with_reducible refine' ED_ev ?a ?b); (case a => fail "ev"); (case b => (first | with_reducible assumption | exact rfl | exact flat_dat (by with_reducible assumption) | exact flat_pl (by with_reducible assumption)))))
local macro_rules | `(tactic| fail "ea") => `(tactic| focus (first
  | (with_reducible refine' EA_one ?a); (case a => fail "ev")
  | (with_reducible refine' EA_F ?a ?b); (case a => fail "ev"); (case b => (first | exact rfl | with_reducible assumption))
  | (with_reducible refine' EA_cons ?a ?b); (case a => fail "ev"); (case b => intro _; fail "ea")))
local macro_rules | `(tactic| fail "er") => `(tactic| focus (first
  | (with_reducible refine' ER_one ?a); (case a => fail "ev")
  | (with_reducible refine' ER_T ?a ?b); (case a => fail "ev"); (case b => (first | exact rfl | with_reducible assumption))
  | (with_reducible refine' ER_cons ?a ?b); (case a => fail "ev"); (case b => intro _; fail "er")))
local macro_rules | `(tactic| fail "el") => `(tactic| focus (first
  | with_reducible exact EL_nn
  | (with_reducible refine' EL_cons ?a ?b); (case a => fail "ev"); (case b => fail "el")
  | (with_reducible refine' EL_nc ?a ?b); (case a => fail "ev"); (case b => fail "el")))
local macro_rules | `(tactic| fail "edl") => `(tactic| focus (first
  | with_reducible exact EDL_nil
  | (with_reducible refine' EDL_cons ?a ?b); (case a => fail "ed"); (case b => fail "edl")))
local macro_rules | `(tactic| fail "eo") => `(tactic| focus (first
  | with_reducible exact EO_nil
  | (with_reducible refine' EO_ev ?a); (case a => fail "ev")))
local macro_rules | `(tactic| fail "ei") => `(tactic| focus (first
  | (with_reducible refine' EI_R1 ?a ?b ?c); (case a => fail "ev"); (case b => fail "side"); (case c => fail "side")
  | (with_reducible refine' EI_R2 ?a ?b ?c ?d ?e ?f ?g); (case a => fail "ev"); (case b => fail "ev"); (case c => fail "side"); (case d => fail "side"); (case e => fail "side"); (case f => fail "side"); (case g => fail "side")
  | (with_reducible refine' EI_E ?a ?b); (case a => fail "ev"); (case b => exact rfl)
  | (with_reducible refine' EI_Z ?a ?b ?c ?d); (case a => fail "ev"); (case b => fail "ev"); (case c => exact rfl); (case d => exact rfl)
  | (with_reducible refine' EI_ZS ?a ?b ?c ?d ?e); (case a => fail "ev"); (case b => fail "ev"); (case c => exact rfl); (case d => exact rfl); (case e => fail "side")
  | (with_reducible refine' EI_S ?a ?b); (case a => fail "ev"); (case b => exact rfl)))
local macro_rules | `(tactic| fail "call") => `(tactic| (apply_assumption (exfalso := false) <;> fail "side"))
local macro_rules | `(tactic| fail "wo") => `(tactic| first
  | (with_reducible refine' WO_ev ?a ?_); (case a => fail "ev")
  | (with_reducible refine' WO_call ?a ?b ?_); (case a => fail "el"); (case b => fail "keep")
  | with_reducible refine' WO_callG ?_
  | with_reducible refine' WO_nil ?_
  | (with_reducible refine' WO_elL ?a ?_); (case a => fail "el")
  | (with_reducible refine' WO_iteT ?a ?b ?_); (case a => fail "ed"); (case b => (first | exact rfl | exact congrArg some (by with_reducible assumption)))
  | (with_reducible refine' WO_iteF ?a ?b ?_); (case a => fail "ed"); (case b => (first | exact rfl | exact congrArg some (by with_reducible assumption)))
  | with_reducible refine' WO_cons ?_
  | with_reducible refine' WO_tup ?_
  | with_reducible refine' WO_lst ?_
  | with_reducible refine' WO_bin ?_
  | with_reducible refine' WO_cmp ?_
  | with_reducible refine' WO_not ?_
  | with_reducible refine' WO_sub ?_
  | with_reducible refine' WO_blt ?_
  | with_reducible refine' WO_and ?_
  | with_reducible refine' WO_or ?_
  | with_reducible refine' WO_Acons ?_
  | with_reducible refine' WO_Rcons ?_
  | with_reducible refine' WO_Anil ?_
  | with_reducible refine' WO_Rnil ?_
  | (with_reducible refine' WO_of ?a ?_); (case a => fail "op"))
local macro_rules | `(tactic| fail "ws") => `(tactic| first
  | with_reducible refine' WS_nop ?_
  | with_reducible refine' WS_doc ?_
  | with_reducible refine' WS_seq ?_
  | (with_reducible refine' WS_frz ?a ?_); (case a => exact rfl)
  | with_reducible refine' WS_set ?_
  | (with_reducible refine' WS_setF ?a ?b ?_); (case a => fail "keep"); (case b => exact of_decide_eq_true rfl)
  | with_reducible refine' WS_own ?_
  | (with_reducible refine' WS_ownF ?a ?_); (case a => exact of_decide_eq_true rfl)
  | with_reducible refine' WS_tgt ?_
  | with_reducible refine' WS_par ?_
  | with_reducible refine' WS_par3 ?_
  | (with_reducible refine' WS_aug ?a ?_); (case a => exact rfl)
  | (with_reducible refine' WS_app ?a ?_); (case a => exact rfl)
  | (with_reducible refine' WS_sto ?a ?_); (case a => exact rfl)
  | (with_reducible refine' WS_swp ?a ?_); (case a => exact rfl)
  | (with_reducible refine' WS_ins ?a ?_); (case a => exact rfl)
  | with_reducible refine' WS_xpr ?_
  | with_reducible refine' WS_ret ?_
  | with_reducible refine' WS_retN ?_
  | with_reducible refine' WS_retF ?_
  | with_reducible refine' WS_brk ?_
  | with_reducible refine' WS_cnt ?_
  | with_reducible refine' WS_rse ?_
  | with_reducible refine' WS_try ?_
  | (with_reducible refine' WS_iteT ?a ?b ?_); (case a => fail "ed"); (case b => (first | exact rfl | exact congrArg some (by with_reducible assumption)))
  | (with_reducible refine' WS_iteF ?a ?b ?_); (case a => fail "ed"); (case b => (first | exact rfl | exact congrArg some (by with_reducible assumption)))
  | fail "wo")
local macro_rules | `(tactic| fail "mk") => `(tactic| first
  | (with_reducible refine' EX_in ?a ?b ?c ?d ?_); (case a => (first | with_reducible assumption | exact rfl)); (case b => (first | exact rfl | (simp; done))); (case c => exact of_decide_eq_true rfl); (case d => exact rfl)
  | (with_reducible refine' KP_mk ?a ?_); (case a => fail "keep")
  | (with_reducible refine' NF_mk ?a ?_); (case a => fail "nf")
  | (with_reducible refine' AS_mk ?a ?_); (case a => fail "as")
  | (with_reducible refine' KA_mk ?a ?b ?_); (case a => fail "keep"); (case b => exact rfl)
  | with_reducible refine' KL_0 ?_
  | (with_reducible refine' KL_1 ?a ?_); (case a => fail "keep")
  | (with_reducible refine' KL_2 ?a ?_); (case a => fail "keep")
  | (with_reducible refine' KL_3 ?a ?_); (case a => fail "keep")
  | (with_reducible refine' KL_4 ?a ?_); (case a => fail "keep")
  | (with_reducible refine' KL_5 ?a ?_); (case a => fail "keep")
  | (with_reducible refine' L3_mk ?a ?b ?c ?_); (case a => exact of_decide_eq_true rfl); (case b => exact of_decide_eq_true rfl); (case c => exact of_decide_eq_true rfl)
  | (with_reducible refine' L2_mk ?a ?b ?_); (case a => exact of_decide_eq_true rfl); (case b => exact of_decide_eq_true rfl)
  | (with_reducible refine' OF_mk ?a ?_); (case a => fail "op")
  | (with_reducible refine' SZ_mk ?a ?_); (case a => fail "side"))
local macro_rules | `(tactic| fail "if") => `(tactic| first
  | (with_reducible refine' WS_ite ?a ?b ?_ ?_); (case a => fail "ed"); (case b => fail "op")
  | (with_reducible refine' WO_ifE ?a ?b ?_ ?_); (case a => fail "ed"); (case b => fail "op")
  | with_reducible refine' WS_iteG ?_
  | with_reducible refine' WO_ite ?_)
local macro_rules | `(tactic| fail "go") => `(tactic| repeat (first | fail "ws" | fail "mk"))
local macro_rules | `(tactic| fail "run") => `(tactic| (apply WO_run; exact rfl; (first | (simp only [startF, List.map_cons, List.map_nil, List.cons_append, List.nil_append, List.append_nil, List.length_cons, List.length_nil, Nat.reduceAdd, Nat.reduceSub, List.reduceReplicate]; done) | (simp only [startF, List.map_cons, List.map_nil, List.cons_append, List.nil_append, List.append_nil, List.length_cons, List.length_nil, Nat.reduceAdd, Nat.reduceSub, List.reduceReplicate]; exact rfl)); fail "go"))
abbrev PLawC (G : Sig) (f : Nat) : Prop := ∀ {n : Nat} {st : Sto} {A : PV → Sto → Prop} {X : Nat → PV → Sto → Prop}, Pen n st → 3 ≤ n → (∀ p st', Pen (n - 3) st' → isP p = true → 2 ≤ p → p ≤ 97 → A (.int p) st') → WO (G.call f [.ref 0] st) A X
theorem plaw_c {G : Sig} {f : Nat} (h : PLawOk G f) : PLawC G f := fun hp hn k => by
  obtain ⟨cs, a, z, rfl, h3, h4⟩ := hp
  obtain ⟨p, a', v, e, b0, b1, b2⟩ := h cs a z h3 (by omega)
  have := isP_rng b0
  exact WO_is e (k _ _ ⟨cs, a', v, rfl, by omega, by omega⟩ b0 this.1 this.2)
abbrev LMatC (G : Sig) (f : Nat) : Prop := ∀ {n : Nat} {high wide p : Int} {st : Sto} {A : PV → Sto → Prop} {X : Nat → PV → Sto → Prop}, Pen n st → 301 ≤ n → 0 ≤ high → high ≤ 12 → 0 ≤ wide → wide ≤ 12 → 2 ≤ p → p ≤ 97 →
  (∀ M st', Pen (n - 301) st' → Mx p high wide M → A (mat high wide M) st') → WO (G.call f [.ref 0, .int high, .int wide, .int p] st) A X
theorem lmat_c {G : Sig} {f : Nat} (h : LMatOk G f) : LMatC G f := fun {n high wide p st A X} hp hn h0 h1 h2 h3 p0 p1 k => by
  obtain ⟨cs, a, z, rfl, h4, h5⟩ := hp
  obtain ⟨t, a', v, e, ⟨rows, rfl, l, q⟩, b1, b2⟩ := h cs a z high wide p h4 (by omega) h0 h1 h2 h3 p0 p1
  have m : isMt p (.seq true [.int high, .int wide, .seq true rows]) = true := by
    simp only [isMt, Bool.and_eq_true, decide_eq_true_eq, List.all_eq_true]
    exact ⟨⟨⟨⟨h0, by omega⟩, h2, by omega⟩, l⟩, q⟩
  obtain ⟨e2, M⟩ := mt_mat m
  rw [e2] at e
  exact WO_is e (k _ _ ⟨cs, a', v, rfl, by omega, by omega⟩ M)
abbrev OpenC (G : Sig) (f : Nat) : Prop := ∀ {ns : List Int} {A : PV → Sto → Prop} {X : Nat → PV → Sto → Prop}, (∀ st', Pen 90000 st' → A (.ref 0) st') → WO (G.call f [.scr (ns.map .int)] []) A X
theorem open_c {G : Sig} {f : Nat} (h : OpenOk G f) : OpenC G f := fun {ns A X} k => by
  obtain ⟨cs, e⟩ := h ns
  exact WO_is e (k _ ⟨cs, 0, 0, rfl, by decide, by decide⟩)
theorem toldV_x {way p : Int} {n x y : PV} (hp : isP p = true) (hn : isWh n = true) (hx : isMt p x = false) : toldV way n x y (.int p) = .str "matrix" := by
  have e : isPr (.int p) = true := hp
  simp [toldV, e, iv, hx, hn]
theorem toldV_y {way p : Int} {n x y : PV} (hp : isP p = true) (hn : isWh n = true) (hw : way < 2) (hx : isMt p y = false) : toldV way n x y (.int p) = .str "matrix" := by
  have e : isPr (.int p) = true := hp
  simp [toldV, e, iv, hx, hn, hw]
abbrev RightC (G : Sig) (f : Nat) : Prop := ∀ {n : Nat} {p r c : Int} {M : List (List Int)} {x y z : PV} {st : Sto} {A : PV → Sto → Prop} {X : Nat → PV → Sto → Prop}, Pen n st → 4 ≤ n → isP p = true → Mx p r c M → r ≤ 12 → c ≤ 12 → isDat x = true → isDat y = true → isDat z = true →
  (∀ st', Pen (n - 4) st' → A (.bl true) st') → WO (G.call f [.ref 0, mat r c M, .seq false [x, y, z], .int p] st) A X
theorem right_c (G : Sig) (fw ft : Nat) (hw : WrongC G fw) (ht : ToldS G ft) {n : Nat} {p r c : Int} {M : List (List Int)} {x y z : PV} {st : Sto} {A : PV → Sto → Prop} {X : Nat → PV → Sto → Prop} (hp : Pen n st) (hn : 4 ≤ n) (ip : isP p = true) (h : Mx p r c M) (hr : r ≤ 12) (hc : c ≤ 12) (dx : isDat x = true) (dy : isDat y = true) (dz : isDat z = true)
    (k : ∀ st', Pen (n - 4) st' → A (.bl true) st') : WO (runFn G (P_law_numbers_right fw ft) [.ref 0, mat r c M, .seq false [x, y, z], .int p] st) A X := by
  unfold P_law_numbers_right
  obtain ⟨p0, p1⟩ := isP_rng ip
  have kx := keep_dat dx
  have ky := keep_dat dy
  have kz := keep_dat dz
  fail "run"
  refine hw hp hn p0 p1 h hr hc (fun st1 hp1 => ?_) (fun w st1 hp1 dw mw => ?_)
  · fail "go"
    exact k _ hp1
  · have kw := keep_dat dw
    have t1 : ∀ {way : Int} {y : PV} {st : Sto}, 0 ≤ way → way < 4 → isDat y = true → G.call ft [.int way, .int 2, w, y, .int p] st = .ok (.str "matrix") st := fun h0 h1 dy => by
      rw [ht h0 h1 rfl dw dy rfl, toldV_x ip rfl mw]
    have t2 : ∀ {way : Int} {y : PV} {st : Sto}, 0 ≤ way → way < 2 → isDat y = true → G.call ft [.int way, .int 2, y, w, .int p] st = .ok (.str "matrix") st := fun h0 h1 dy => by
      rw [ht h0 (by omega) rfl dy dw rfl, toldV_y ip rfl h1 mw]
    clear ht
    have he : cmpF .eq (.seq false ((irg 0 4).map (fun _ => PV.str "matrix") ++ [PV.str "matrix", .str "matrix"])) (.seq false (List.replicate (6 : Int).toNat (.str "matrix"))) = some true := by decide +kernel
    fail "go"
    exact k _ hp1
end Rq
set_option Elab.async false
set_option linter.all false
set_option maxRecDepth 100000
set_option maxHeartbeats 1000000
/-! The law of products, k03. -/
namespace Rq
open PySem PySem.Spec Rm Rp
local macro_rules | `(tactic| fail "nf") => `(tactic| ((try simp only [wipeF, List.set_cons_succ, List.set_cons_zero, List.cons_append, List.nil_append]); exact rfl))
local macro_rules | `(tactic| fail "as") => `(tactic| focus (first
  | (with_reducible refine' asg_nm ?a ?b); (case a => exact of_decide_eq_true rfl); (case b => fail "nf")
  | with_reducible exact asgL_nil
  | (with_reducible refine' asgL_cons ?a ?b); (case a => fail "as"); (case b => fail "as")
  | (with_reducible refine' asg_tp ?a); (case a => fail "as")
  | (apply asg_tp); fail "as"))
local macro_rules | `(tactic| fail "side") => `(tactic| first
  | with_reducible assumption
  | omega
  | exact rfl
  | assumption
  | (simp only [mem_irg, List.length_map, irg_len] at *; first | omega | (simp [*]; done) | (simp [*]; omega) | grind)
  | decide
  | grind)
local macro_rules | `(tactic| fail "keep") => `(tactic| first
  | with_reducible assumption
  | exact rfl
  | (exact keep_dat (by with_reducible assumption))
  | (exact keep_pl (by with_reducible assumption))
  | (simp [keepAll, *]; done))
local macro_rules | `(tactic| fail "op") => `(tactic| first
  | with_reducible exact sub_int
  | with_reducible exact add_int
  | with_reducible exact eq_int
  | with_reducible exact ne_int
  | with_reducible exact lt_int
  | with_reducible exact le_int
  | with_reducible exact gt_int
  | with_reducible exact ge_int
  | with_reducible exact sum_map
  | with_reducible exact sum_ints
  | with_reducible exact all_map
  | with_reducible exact any_map
  | with_reducible exact len_map
  | with_reducible exact eq_two
  | with_reducible exact ne_two
  | with_reducible exact cut_23
  | with_reducible exact idx0
  | with_reducible exact idx1
  | with_reducible exact idx2
  | (with_reducible refine' mul_int ?a); (case a => (first | left; fail "sml" | right; fail "sml"))
  | (with_reducible refine' mod_int ?a); (case a => fail "side")
  | (with_reducible refine' div_int ?a ?b); (case a => fail "side"); (case b => fail "side")
  | (with_reducible refine' idx_map ?a ?b); (case a => fail "side"); (case b => fail "side")
  | (with_reducible refine' add_map ?a); (case a => fail "side")
  | (with_reducible refine' add_seq ?a); (case a => fail "side")
  | (with_reducible refine' rep_one ?a ?b); (case a => fail "side"); (case b => fail "side")
  | with_reducible assumption
  | with_reducible exact cut_map
  | with_reducible exact cut_raw
  | exact rfl
  | (with_reducible refine' idx_raw ?a ?b); (case a => fail "side"); (case b => fail "side")
  | (simp only [isiAny, isiF, *]; exact rfl))
local macro_rules | `(tactic| fail "sml") => `(tactic| (first | exact rfl | (refine sml ?_ ?_ <;> fail "side")))
local macro_rules | `(tactic| fail "ev") => `(tactic| focus (first
  | (with_reducible refine' EV_var ?a); (case a => exact rfl)
  | with_reducible exact EV_cst
  | (with_reducible refine' EV_loc ?a); (case a => exact rfl)
  | (with_reducible refine' EV_glb ?a); (case a => with_reducible assumption)
  | (with_reducible refine' EV_neg ?a); (case a => fail "ev")
  | (with_reducible refine' EV_not ?a ?b); (case a => fail "ed"); (case b => fail "op")
  | (with_reducible refine' EV_bin ?a ?b ?c); (case a => fail "ed"); (case b => fail "ed"); (case c => fail "op")
  | (with_reducible refine' EV_cmp ?a ?b ?c); (case a => fail "ed"); (case b => fail "ed"); (case c => fail "op")
  | (with_reducible refine' EV_chn ?a ?b ?c ?d ?e); (case a => fail "ed"); (case b => fail "ed"); (case c => fail "op"); (case d => fail "ed"); (case e => fail "op")
  | (with_reducible refine' EV_and ?a); (case a => fail "ea")
  | (with_reducible refine' EV_or ?a); (case a => fail "er")
  | (with_reducible refine' EV_iteT ?a ?b ?c); (case a => fail "ed"); (case b => (first | exact rfl | exact congrArg some (by with_reducible assumption))); (case c => fail "ev")
  | (with_reducible refine' EV_iteF ?a ?b ?c); (case a => fail "ed"); (case b => (first | exact rfl | exact congrArg some (by with_reducible assumption))); (case c => fail "ev")
  | (with_reducible refine' EV_ite ?a ?b ?c ?d); (case a => fail "ed"); (case b => fail "op"); (case c => intro _; fail "ev"); (case d => intro _; fail "ev")
  | (with_reducible refine' EV_tup ?a ?b ?c); (case a => fail "el"); (case b => fail "keep"); (case c => exact fits_lit rfl)
  | (with_reducible refine' EV_lst ?a ?b ?c); (case a => fail "el"); (case b => fail "keep"); (case c => exact fits_lit rfl)
  | (with_reducible refine' EV_sub ?a ?b ?c); (case a => fail "ed"); (case b => fail "ev"); (case c => fail "op")
  | (with_reducible refine' EV_slc ?a ?b ?c ?d); (case a => fail "ed"); (case b => fail "eo"); (case c => fail "eo"); (case d => fail "op")
  | (with_reducible refine' EV_rev ?a ?b); (case a => fail "ed"); (case b => fail "op")
  | (with_reducible refine' EV_call ?a ?b ?c); (case a => fail "el"); (case b => fail "keep"); (case c => fail "call")
  | (with_reducible refine' EV_blt ?a ?b); (case a => fail "edl"); (case b => fail "op")
  | (with_reducible refine' EV_isi ?a ?b); (case a => fail "ed"); (case b => fail "op")
  | (with_reducible refine' EV_idx ?a ?b ?c); (case a => fail "ed"); (case b => fail "ed"); (case c => fail "op")
  | (with_reducible refine' EV_cnt ?a ?b ?c); (case a => fail "ed"); (case b => fail "ed"); (case c => fail "op")
  | (with_reducible refine' EV_comp ?a ?b ?c ?d); (case a => fail "ei"); (case b => intro _ _; fail "as"); (case c => intro _ _; fail "ev"); (case d => intro _ _; fail "keep")
  | (with_reducible refine' EV_compR ?a ?b ?c ?d); (case a => fail "ei"); (case b => intro _ _; fail "as"); (case c => intro _ _; fail "ev"); (case d => intro _ _; fail "keep")
  | (with_reducible refine' EV_compF ?a ?b ?c ?d ?e ?f ?g); (case a => fail "ei"); (case b => intro _ _; fail "as"); (case c => intro _ _; fail "ed"); (case d => intro _ _; fail "op"); (case e => intro _ _ _; fail "ev"); (case f => intro _ _ _; fail "keep"); (case g => intro _; contradiction)
  | (with_reducible refine' EV_compFR ?a ?b ?c ?d ?e ?f ?g); (case a => fail "ei"); (case b => intro _ _; fail "as"); (case c => intro _ _; fail "ed"); (case d => intro _ _; fail "op"); (case e => intro _ _ _; fail "ev"); (case f => intro _ _ _; fail "keep"); (case g => intro _; contradiction)
  | (with_reducible refine' EV_compU ?a ?b ?c); (case a => fail "eu"); (case b => (fail "nf")); (case c => fail "cu")
  | (with_reducible refine' EV_comp2 ?a ?b ?c ?d ?e ?f ?g); (case a => fail "ei"); (case b => intro _ _; fail "as"); (case c => intro _ _; fail "ei"); (case d => intro _ _ _ _; fail "as"); (case e => intro _ _ _ _; fail "ev"); (case f => intro _ _ _ _; fail "keep"); (case g => fail "side")))
local macro_rules | `(tactic| fail "eu") => `(tactic| focus (first
  | (with_reducible refine' EI_ER ?a ?b ?c); (case a => fail "ev"); (case b => exact rfl); (case c => (simp only [enumF]; exact rfl))
  | (with_reducible refine' EI_S ?a ?b); (case a => fail "ev"); (case b => exact rfl)
  | with_reducible exact EI_Rl1
  | with_reducible exact EI_Rl2
  | with_reducible exact EI_Rl3
  | with_reducible exact EI_Rl4
  | with_reducible exact EI_Rl5
  | with_reducible exact EI_Rl6))
local macro_rules | `(tactic| fail "cu") => `(tactic| focus (first
  | with_reducible exact CU_nil
  | (with_reducible refine' CU_all ?a ?b ?c ?d); (case a => fail "as"); (case b => fail "ev"); (case c => fail "keep"); (case d => fail "cu")
  | (with_reducible refine' CU_yes ?a ?b ?c ?d ?e ?f ?g); (case a => fail "as"); (case b => fail "ed"); (case c => (first | exact rfl | (simp [truF, *]; done))); (case d => (intro _; contradiction)); (case e => fail "ev"); (case f => fail "keep"); (case g => fail "cu")
  | (with_reducible refine' CU_no ?a ?b ?c ?d ?e); (case a => fail "as"); (case b => fail "ed"); (case c => (first | exact rfl | (simp [truF, *]; done))); (case d => (intro _; contradiction)); (case e => fail "cu")))
local macro_rules | `(tactic| fail "ed") => `(tactic| focus (first
  | (with_reducible refine' ED_own ?a); (case a => exact rfl)
  | (with_reducible refine' ED_ref ?a ?b); (case a => exact rfl); (case b => exact rfl)
  | (with_reducible refine' ED_ev ?a ?b); (case a => fail "ev"); (case b => (first | with_reducible assumption | exact rfl | exact flat_dat (by with_reducible assumption) | exact flat_pl (by with_reducible assumption)))))
local macro_rules | `(tactic| fail "ea") => `(tactic| focus (first
  | (with_reducible refine' EA_one ?a); (case a => fail "ev")
  | (with_reducible refine' EA_F ?a ?b); (case a => fail "ev"); (case b => (first | exact rfl | with_reducible assumption))
  | (with_reducible refine' EA_cons ?a ?b); (case a => fail "ev"); (case b => intro _; fail "ea")))
local macro_rules | `(tactic| fail "er") => `(tactic| focus (first
  | (with_reducible refine' ER_one ?a); (case a => fail "ev")
  | (with_reducible refine' ER_T ?a ?b); (case a => fail "ev"); (case b => (first | exact rfl | with_reducible assumption))
  | (with_reducible refine' ER_cons ?a ?b); (case a => fail "ev"); (case b => intro _; fail "er")))
local macro_rules | `(tactic| fail "el") => `(tactic| focus (first
  | with_reducible exact EL_nn
  | (with_reducible refine' EL_cons ?a ?b); (case a => fail "ev"); (case b => fail "el")
  | (with_reducible refine' EL_nc ?a ?b); (case a => fail "ev"); (case b => fail "el")))
local macro_rules | `(tactic| fail "edl") => `(tactic| focus (first
  | with_reducible exact EDL_nil
  | (with_reducible refine' EDL_cons ?a ?b); (case a => fail "ed"); (case b => fail "edl")))
local macro_rules | `(tactic| fail "eo") => `(tactic| focus (first
  | with_reducible exact EO_nil
  | (with_reducible refine' EO_ev ?a); (case a => fail "ev")))
local macro_rules | `(tactic| fail "ei") => `(tactic| focus (first
  | (with_reducible refine' EI_R1 ?a ?b ?c); (case a => fail "ev"); (case b => fail "side"); (case c => fail "side")
  | (with_reducible refine' EI_R2 ?a ?b ?c ?d ?e ?f ?g); (case a => fail "ev"); (case b => fail "ev"); (case c => fail "side"); (case d => fail "side"); (case e => fail "side"); (case f => fail "side"); (case g => fail "side")
  | (with_reducible refine' EI_E ?a ?b); (case a => fail "ev"); (case b => exact rfl)
  | (with_reducible refine' EI_Z ?a ?b ?c ?d); (case a => fail "ev"); (case b => fail "ev"); (case c => exact rfl); (case d => exact rfl)
  | (with_reducible refine' EI_ZS ?a ?b ?c ?d ?e); (case a => fail "ev"); (case b => fail "ev"); (case c => exact rfl); (case d => exact rfl); (case e => fail "side")
  | (with_reducible refine' EI_S ?a ?b); (case a => fail "ev"); (case b => exact rfl)))
set_option hygiene false in
local macro_rules | `(tactic| fail "call") => `(tactic| first | (apply c0 <;> fail "side") | (apply c1 <;> fail "side") | (apply c2 <;> fail "side") | (apply c3 <;> fail "side") | (apply c4 <;> fail "side") | (apply c5 <;> fail "side") | (apply c6 <;> fail "side") | (apply c7 <;> fail "side") | (apply c8 <;> fail "side") | (apply c9 <;> fail "side"))
local macro_rules | `(tactic| fail "wo") => `(tactic| first
  | (with_reducible refine' WO_ev ?a ?_); (case a => fail "ev")
  | (with_reducible refine' WO_call ?a ?b ?_); (case a => fail "el"); (case b => fail "keep")
  | with_reducible refine' WO_callG ?_
  | with_reducible refine' WO_nil ?_
  | (with_reducible refine' WO_elL ?a ?_); (case a => fail "el")
  | (with_reducible refine' WO_iteT ?a ?b ?_); (case a => fail "ed"); (case b => (first | exact rfl | exact congrArg some (by with_reducible assumption)))
  | (with_reducible refine' WO_iteF ?a ?b ?_); (case a => fail "ed"); (case b => (first | exact rfl | exact congrArg some (by with_reducible assumption)))
  | with_reducible refine' WO_cons ?_
  | with_reducible refine' WO_tup ?_
  | with_reducible refine' WO_lst ?_
  | with_reducible refine' WO_bin ?_
  | with_reducible refine' WO_cmp ?_
  | with_reducible refine' WO_not ?_
  | with_reducible refine' WO_sub ?_
  | with_reducible refine' WO_blt ?_
  | with_reducible refine' WO_and ?_
  | with_reducible refine' WO_or ?_
  | with_reducible refine' WO_Acons ?_
  | with_reducible refine' WO_Rcons ?_
  | with_reducible refine' WO_Anil ?_
  | with_reducible refine' WO_Rnil ?_
  | (with_reducible refine' WO_of ?a ?_); (case a => fail "op"))
local macro_rules | `(tactic| fail "ws") => `(tactic| first
  | with_reducible refine' WS_nop ?_
  | with_reducible refine' WS_doc ?_
  | with_reducible refine' WS_seq ?_
  | (with_reducible refine' WS_frz ?a ?_); (case a => exact rfl)
  | with_reducible refine' WS_set ?_
  | (with_reducible refine' WS_setF ?a ?b ?_); (case a => fail "keep"); (case b => exact of_decide_eq_true rfl)
  | with_reducible refine' WS_own ?_
  | (with_reducible refine' WS_ownF ?a ?_); (case a => exact of_decide_eq_true rfl)
  | with_reducible refine' WS_tgt ?_
  | with_reducible refine' WS_par ?_
  | with_reducible refine' WS_par3 ?_
  | (with_reducible refine' WS_aug ?a ?_); (case a => exact rfl)
  | (with_reducible refine' WS_app ?a ?_); (case a => exact rfl)
  | (with_reducible refine' WS_sto ?a ?_); (case a => exact rfl)
  | (with_reducible refine' WS_swp ?a ?_); (case a => exact rfl)
  | (with_reducible refine' WS_ins ?a ?_); (case a => exact rfl)
  | with_reducible refine' WS_xpr ?_
  | with_reducible refine' WS_ret ?_
  | with_reducible refine' WS_retN ?_
  | with_reducible refine' WS_retF ?_
  | with_reducible refine' WS_brk ?_
  | with_reducible refine' WS_cnt ?_
  | with_reducible refine' WS_rse ?_
  | with_reducible refine' WS_try ?_
  | (with_reducible refine' WS_iteT ?a ?b ?_); (case a => fail "ed"); (case b => (first | exact rfl | exact congrArg some (by with_reducible assumption)))
  | (with_reducible refine' WS_iteF ?a ?b ?_); (case a => fail "ed"); (case b => (first | exact rfl | exact congrArg some (by with_reducible assumption)))
  | fail "wo")
local macro_rules | `(tactic| fail "mk") => `(tactic| first
  | (with_reducible refine' EX_in ?a ?b ?c ?d ?_); (case a => (first | with_reducible assumption | exact rfl)); (case b => (first | exact rfl | (simp; done))); (case c => exact of_decide_eq_true rfl); (case d => exact rfl)
  | (with_reducible refine' KP_mk ?a ?_); (case a => fail "keep")
  | (with_reducible refine' NF_mk ?a ?_); (case a => fail "nf")
  | (with_reducible refine' AS_mk ?a ?_); (case a => fail "as")
  | (with_reducible refine' KA_mk ?a ?b ?_); (case a => fail "keep"); (case b => exact rfl)
  | with_reducible refine' KL_0 ?_
  | (with_reducible refine' KL_1 ?a ?_); (case a => fail "keep")
  | (with_reducible refine' KL_2 ?a ?_); (case a => fail "keep")
  | (with_reducible refine' KL_3 ?a ?_); (case a => fail "keep")
  | (with_reducible refine' KL_4 ?a ?_); (case a => fail "keep")
  | (with_reducible refine' KL_5 ?a ?_); (case a => fail "keep")
  | (with_reducible refine' L3_mk ?a ?b ?c ?_); (case a => exact of_decide_eq_true rfl); (case b => exact of_decide_eq_true rfl); (case c => exact of_decide_eq_true rfl)
  | (with_reducible refine' L2_mk ?a ?b ?_); (case a => exact of_decide_eq_true rfl); (case b => exact of_decide_eq_true rfl)
  | (with_reducible refine' OF_mk ?a ?_); (case a => fail "op")
  | (with_reducible refine' SZ_mk ?a ?_); (case a => fail "side"))
local macro_rules | `(tactic| fail "if") => `(tactic| first
  | (with_reducible refine' WS_ite ?a ?b ?_ ?_); (case a => fail "ed"); (case b => fail "op")
  | (with_reducible refine' WO_ifE ?a ?b ?_ ?_); (case a => fail "ed"); (case b => fail "op")
  | with_reducible refine' WS_iteG ?_
  | with_reducible refine' WO_ite ?_)
local macro_rules | `(tactic| fail "go") => `(tactic| repeat (first | fail "ws" | fail "mk"))
local macro_rules | `(tactic| fail "run") => `(tactic| (apply WO_run; exact rfl; (first | (simp only [startF, List.map_cons, List.map_nil, List.cons_append, List.nil_append, List.append_nil, List.length_cons, List.length_nil, Nat.reduceAdd, Nat.reduceSub, List.reduceReplicate]; done) | (simp only [startF, List.map_cons, List.map_nil, List.cons_append, List.nil_append, List.append_nil, List.length_cons, List.length_nil, Nat.reduceAdd, Nat.reduceSub, List.reduceReplicate]; exact rfl)); fail "go"))
theorem row_sms {p : Int} {c : Nat} (h1 : p ≤ 97) {row : List Int} (hl : row.length ≤ c) (hr : ∀ a ∈ row, 0 ≤ a ∧ a < p) : Sm 1 (4 + c * 38) (iT row) := by
  have := Sms.all (d := 0) (w := 36) (xs := row.map PV.int) fun x hx => by
    obtain ⟨a, ha, rfl⟩ := List.mem_map.mp hx
    have := hr a ha
    exact Sm.int (by omega)
  exact Sm.seq true (this.mono (Nat.le_refl _) (by rw [List.length_map]; exact Nat.mul_le_mul_right _ hl))
theorem mat_sm {p r c : Int} {M : List (List Int)} (h : Mx p r c M) (h1 : p ≤ 97) (hr : r ≤ 12) (hc : c ≤ 12) : Sm 3 10000 (mat r c M) := by
  have l := h.len
  have := h.r0
  have := h.c0
  have a : Sms 1 (12 * 462) (M.map iT) := (Sms.all (d := 1) (w := 460) (xs := M.map iT) fun x hx => by
    obtain ⟨row, hrow, rfl⟩ := List.mem_map.mp hx
    exact row_sms (c := 12) h1 (by have := h.wid row hrow; omega) (h.rng row hrow)).mono (Nat.le_refl _) (by rw [List.length_map]; omega)
  have b : Sm 2 5548 (.seq true (M.map iT)) := Sm.seq true a
  exact (Sm.seq true (Sms.cons (Sm.int (by omega)) (Sms.cons (Sm.int (by omega)) (Sms.cons b (Sms.nil 2))))).mono (Nat.le_refl _) (by decide)
theorem told_sm {way n p r c r2 c2 : Int} {A B : List (List Int)} (w0 : 0 ≤ way) (w1 : way < 4) (hp : isP p = true) (h : Mx p r c A) (h2 : Mx p r2 c2 B) (hr : r ≤ 12) (hc : c ≤ 12) (hr2 : r2 ≤ 12) (hc2 : c2 ≤ 12) : Sm 3 10000 (toldV way (.int n) (mat r c A) (mat r2 c2 B) (.int p)) := by
  obtain ⟨p0, p1⟩ := isP_rng hp
  have w : way = 0 ∨ way = 1 ∨ way = 2 ∨ way = 3 := by omega
  rcases w with rfl | rfl | rfl | rfl
  · rw [toldV_0 (y := .non) hp h h2]
    split
    · rename_i e
      subst e
      exact mat_sm (mul_Mx p0 h h2) p1 hr hc2
    · exact (Sm.str (d := 3) (x := "fit") (by decide +kernel)).mono (Nat.le_refl _) (by decide)
  · rw [toldV_1 hp h h2]
    split
    · rename_i e
      obtain ⟨rfl, rfl⟩ := e
      exact mat_sm (add_Mx p0 h h2) p1 hr hc
    · exact (Sm.str (d := 3) (x := "fit") (by decide +kernel)).mono (Nat.le_refl _) (by decide)
  · rw [toldV_2 hp h]
    exact mat_sm (sca_Mx p0 h) p1 hr hc
  · rw [toldV_3 hp h]
    exact mat_sm (flip_Mx h) p1 hc hr
theorem ne_same {d w : Nat} {x : PV} (h : Sm d w x) : cmpF .ne (.str (dat x).shown) (.str (dat x).shown) = some false := by
  show (eqF _ _).map not = _
  rw [eqF_shown h h]; simp
theorem toldV_p {way : Int} {n x y q : PV} (h : isPr q = false) : toldV way n x y q = .str "prime" := by simp [toldV, h]
theorem toldV_n {n x y q : PV} (h : isPr q = true) (hn : isWh n = false) : toldV 2 n x y q = .str "number" := by simp [toldV, h, hn]
theorem law03 (G : Sig) (fo fp fa ft fm f1 fl fd fr : Nat) (ho : OpenC G fo) (hp : PLawC G fp) (ha : AnewC G fa) (ht : TakeC G ft) (hm : LMatC G fm) (h1 : OneC G f1) (c0 : ToldS G fl) (c1 : DueS G fd) (hr : RightC G fr) (ns : List Int) :
    WO (runFn G (P_law_k03 fo fp fa ft fm f1 fl fd fr) [.scr (ns.map .int)] []) (fun v _ => v = .bl true) noX := by
  unfold P_law_k03
  fail "run"
  refine ho fun st0 hp0 => ?_
  fail "go"
  refine WS_tail (xs := irg 0 6) (e := PV.int) [va (.scr (ns.map .int)), va (.ref 0)] (List.replicate 18 none) (fun pre s => Pen (90000 - 2000 * pre.length) s) ?_ ?_ ?_ ?_ ?_
  · fail "ei"
  · exact rfl
  · exact hp0
  · intro pre x post ys s e hl hs
    obtain ⟨x2, x3, x4, x5, x6, x7, x8, x9, x10, x11, x12, x13, x14, x15, x16, x17, x18, x19, rfl⟩ := ln_18 hl
    clear hl
    have hle : pre.length ≤ 5 := by
      have := congrArg List.length e
      simp [irg_len] at this
      omega
    generalize hn : 90000 - 2000 * pre.length = n at hs
    refine ⟨_, by fail "as", ?_⟩
    fail "go"
    refine ha hs fun s1 h1' => ?_
    fail "go"
    refine hp h1' (by omega) fun p s2 h2 ip p0 p1 => ?_
    fail "go"
    refine ht h2 (by omega) (by omega) (by omega) fun high s3 h3 a0 a1 => ?_
    fail "go"
    refine ht h3 (by omega) (by omega) (by omega) fun wide s4 h4 b0 b1 => ?_
    fail "go"
    refine ht h4 (by omega) (by omega) (by omega) fun deep s5 h5 e0 e1 => ?_
    fail "go"
    refine hm h5 (by omega) a0 (by omega) b0 (by omega) p0 p1 fun M s6 h6 mM => ?_
    fail "go"
    refine hm h6 (by omega) b0 (by omega) e0 (by omega) p0 p1 fun M1 s7 h7 m1 => ?_
    fail "go"
    refine hm h7 (by omega) a0 (by omega) b0 (by omega) p0 p1 fun M2 s8 h8 m2 => ?_
    fail "go"
    refine hm h8 (by omega) e0 (by omega) b0 (by omega) p0 p1 fun M3 s9 h9 m3 => ?_
    fail "go"
    refine ht h9 (by omega) (by omega) (by omega) fun k s10 h10 k0 k1 => ?_
    fail "go"
    refine h1 h10 (by omega) (by simp) (by simp) rfl fun num s11 h11 hnum => ?_
    obtain ⟨m, rfl⟩ : ∃ m, num = .int m := by
      simp only [List.mem_cons, List.not_mem_nil, or_false] at hnum
      rcases hnum with rfl | rfl | rfl | rfl | rfl | rfl <;> exact ⟨_, rfl⟩
    clear hnum
    have smM := mat_sm mM p1 (by omega) (by omega)
    have smT : Sm 5 100000 (.seq true [mat high wide M, .seq false [mat wide deep M1, mat high wide M2, mat deep wide M3]]) :=
      (Sm.seq true (Sms.cons (smM.mono (d' := 4) (w' := 10000) (by decide) (by decide)) (Sms.cons (Sm.seq false (Sms.cons (mat_sm m1 p1 (by omega) (by omega)) (Sms.cons (mat_sm m2 p1 (by omega) (by omega)) (Sms.cons (mat_sm m3 p1 (by omega) (by omega)) (Sms.nil 3))))) (Sms.nil 4)))).mono (by decide) (by decide)
    have r1 := smT.repr (by decide) (by decide)
    have r2 := ne_same smT
    fail "go"
    refine WS_f2 (xs := irg 0 4) (e := PV.int) 8 17 (fun _ _ _ s => s = s11) ?_ rfl ?_ ?_
    · fail "ei"
    · rintro pre' way post' x8 x17 s e' rfl
      have hw : way ∈ irg 0 4 := by rw [e']; simp
      rw [mem_irg] at hw
      obtain ⟨w0, w1⟩ := hw
      refine ⟨_, by fail "as", ?_⟩
      fail "go"
      refine WS_r1 (xs := [mat wide deep M1, mat high wide M2, mat deep wide M3]) 17 (fun _ _ s' => s' = s) ?_ rfl ?_ ?_
      · fail "ei"
      · rintro pre2 y post2 x17 s' e2 rfl
        have hy : y ∈ [mat wide deep M1, mat high wide M2, mat deep wide M3] := by rw [e2]; simp
        obtain ⟨r2', c2', B, rfl, mB, q1, q2⟩ : ∃ r2 c2 B, y = mat r2 c2 B ∧ Mx p r2 c2 B ∧ r2 ≤ 12 ∧ c2 ≤ 12 := by
          simp only [List.mem_cons, List.not_mem_nil, or_false] at hy
          rcases hy with rfl | rfl | rfl
          · exact ⟨_, _, _, rfl, m1, by omega, by omega⟩
          · exact ⟨_, _, _, rfl, m2, by omega, by omega⟩
          · exact ⟨_, _, _, rfl, m3, by omega, by omega⟩
        clear hy e2
        have sm := told_sm (n := m) w0 w1 ip mM mB (by omega) (by omega) q1 q2
        have t1 := sm.repr (by decide) (by decide)
        have t2 := ne_same sm
        have t3 := sm.keep
        have t4 := flat_dat (sm_dat sm.s)
        have dM' := mat_dat high wide M
        have dB := mat_dat r2' c2' B
        have pq : pl (PV.int p) = true := rfl
        refine ⟨_, by fail "as", ?_⟩
        fail "go"
        exact ⟨_, rfl, rfl⟩
      · rintro x17 s' rfl
        fail "go"
        exact ⟨_, _, rfl, rfl⟩
    · rintro x8 x17 s rfl
      fail "go"
      refine WO_comp (xs := irg 0 3) (e := PV.int) (fun j s => Pen (n - 2000 + 600 + j) s) (fun _ v => ∃ b, v = .bl b) ?_ (h11.le (by simp [irg_len]; omega)) ?_ ?_
      · fail "ei"
      · intro x hx j s hs'
        refine ⟨_, by fail "as", ?_⟩
        fail "go"
        refine ht hs' (by omega) (by omega) (by omega) fun k s' h _ _ => ?_
        fail "go"
        exact ⟨rfl, ⟨_, rfl⟩, h.le (by omega)⟩
      · intro ys s12 h12 hl hq
        obtain ⟨y0, y1, y2, rfl⟩ := ln_3 (show ys.length = 3 by rw [hl]; simp [irg_len])
        obtain ⟨b0, rfl⟩ := hq 0 (by simp [irg_len]) (by simp)
        obtain ⟨b1, rfl⟩ := hq 1 (by simp [irg_len]) (by simp)
        obtain ⟨b2, rfl⟩ := hq 2 (by simp [irg_len]) (by simp)
        clear hl hq
        have lM := mM.len
        fail "go"
        have hodd : ∀ v ∈ [PV.non, .int 0, .seq true [.int high, .int wide], .seq false [.int high, .int wide, .seq true (M.map iT)], .seq true [.int high, .int wide, .seq true (M.map iT ++ [.seq true (List.replicate wide.toNat (.int p))])], .str "m", .seq true [.int 0, .int 0, .seq true [.seq true []]]], isDat v = true ∧ isMt p v = false := by
          intro v hv
          simp only [List.mem_cons, List.not_mem_nil, or_false] at hv
          rcases hv with rfl | rfl | rfl | rfl | rfl | rfl | rfl
          · exact ⟨rfl, rfl⟩
          · exact ⟨rfl, rfl⟩
          · exact ⟨rfl, rfl⟩
          · exact ⟨mat_dat high wide M, rfl⟩
          · refine ⟨?_, ?_⟩
            · simp only [isDat, areDat, areDat_app, rows_dat, Bool.and_self, Bool.true_and, Bool.and_true]
              exact dat_all fun x hx => by rw [(List.mem_replicate.mp hx).2]; rfl
            · simp [isMt]; omega
          · exact ⟨by decide +kernel, rfl⟩
          · exact ⟨rfl, rfl⟩
        refine WO_imp (Q := fun v s' => Pen (n - 2000 + 500) s' ∧ isDat v = true ∧ (b0 = true → isMt p v = false)) (X := noX) ?_ ?_ (fun _ _ _ h => h.elim)
        · fail "if"
          · intro hb
            fail "go"
            refine h1 h12 (by omega) (by simp) (by simp) (List.all_eq_true.mpr fun v hv => keep_dat (hodd v hv).1) fun v s' hs' hv => ?_
            exact ⟨hs'.le (by omega), (hodd v hv).1, fun _ => (hodd v hv).2⟩
          · intro hb
            fail "go"
            exact ⟨h12.le (by omega), mat_dat _ _ _, fun h => by rw [hb] at h; cases h⟩
        rintro first s13 ⟨h13, df, mf⟩
        have kf := keep_dat df
        fail "go"
        refine WO_imp (Q := fun v s' => Pen (n - 2000 + 400) s' ∧ isDat v = true ∧ (b1 = true → isMt p v = false)) (X := noX) ?_ ?_ (fun _ _ _ h => h.elim)
        · fail "if"
          · intro hb
            fail "go"
            refine h1 h13 (by omega) (by simp) (by simp) (List.all_eq_true.mpr fun v hv => keep_dat (hodd v hv).1) fun v s' hs' hv => ?_
            exact ⟨hs'.le (by omega), (hodd v hv).1, fun _ => (hodd v hv).2⟩
          · intro hb
            fail "go"
            exact ⟨h13.le (by omega), mat_dat _ _ _, fun h => by rw [hb] at h; cases h⟩
        rintro second s14 ⟨h14, dsc, msc⟩
        have ks := keep_dat dsc
        fail "go"
        refine WO_imp (Q := fun v s' => Pen (n - 2000 + 300) s' ∧ pl v = true ∧ (b2 = true → isPr v = false) ∧ (b2 = false → v = .int p)) (X := noX) ?_ ?_ (fun _ _ _ h => h.elim)
        · fail "if"
          · intro hb
            fail "go"
            refine h1 h14 (by omega) (by simp) (by simp) rfl fun v s' hs' hv => ?_
            simp only [List.mem_cons, List.not_mem_nil, or_false] at hv
            refine ⟨hs'.le (by omega), ?_, fun _ => ?_, fun h => by rw [hb] at h; cases h⟩ <;> rcases hv with rfl | rfl | rfl | rfl | rfl | rfl | rfl <;> first | rfl | decide +kernel
          · intro hb
            fail "go"
            refine ⟨h14.le (by omega), rfl, ?_, fun _ => rfl⟩
            intro h
            rw [hb] at h
            cases h
        rintro q s15 ⟨h15, pq, mq, eq⟩
        have kq := keep_pl pq
        fail "go"
        have E1 : cmpF .ne (.str "prime") (.str "prime") = some false := by decide +kernel
        have E2 : cmpF .ne (.str "matrix") (.str "matrix") = some false := by decide +kernel
        have E3 : cmpF .ne (.str "number") (.str "number") = some false := by decide +kernel
        refine WS_f2 (xs := irg 0 4) (e := PV.int) 8 18 (fun _ _ _ s => s = s15) ?_ rfl ?_ ?_
        · fail "ei"
        · rintro pre' way post' x8 x18 s e' rfl
          have hw : way ∈ irg 0 4 := by rw [e']; simp
          rw [mem_irg] at hw
          obtain ⟨w0, w1⟩ := hw
          have kk : keepAll [.int way, .int m, first, second, q] = true := by simp [keepAll, kf, ks, kq]
          refine ⟨_, by fail "as", ?_⟩
          by_cases hb2 : b2 = true
          · have c2 : G.call fl [.int way, .int m, first, second, q] s = .ok (.str "prime") s := by
              rw [c0 w0 w1 rfl df dsc pq, toldV_p (mq hb2)]
            clear c0 c1
            subst hb2
            fail "go"
            exact ⟨_, _, rfl, rfl⟩
          · have hb2 : b2 = false := by simpa using hb2
            subst hb2
            have eq := eq rfl
            subst eq
            cases hc : (b0 || (b1 && decide (way < 2))) with
            | true =>
              have c2 : G.call fl [.int way, .int m, first, second, .int p] s = .ok (.str "matrix") s := by
                rw [c0 w0 w1 rfl df dsc rfl]
                cases b0 with
                | true => rw [toldV_x ip rfl (mf rfl)]
                | false =>
                  cases b1 with
                  | true => rw [toldV_y ip rfl (by simpa using hc) (msc rfl)]
                  | false => cases hc
              clear c0 c1
              fail "go"
              exact ⟨_, _, rfl, rfl⟩
            | false =>
              clear c0 c1
              fail "go"
              exact ⟨_, _, rfl, rfl⟩
        · rintro x8 x18 s rfl
          fail "go"
          refine h1 h15 (by omega) (by simp) (by simp) rfl fun odd s16 h16 ho => ?_
          have dO : pl odd = true ∧ isWh odd = false := by
            simp only [List.mem_cons, List.not_mem_nil, or_false] at ho
            rcases ho with rfl | rfl | rfl | rfl | rfl <;> exact ⟨rfl, rfl⟩
          have kO := keep_pl dO.1
          have c2 : ∀ {st : Sto}, G.call fl [.int 2, odd, first, second, .int p] st = .ok (.str "number") st := fun {st} => by
            rw [c0 (by decide) (by decide) dO.1 df dsc rfl, toldV_n (show isPr (.int p) = true from ip) dO.2]
          have c3 : ∀ {st : Sto}, G.call fl [.int 2, odd, first, second, .int 4] st = .ok (.str "prime") st := fun {st} => by
            rw [c0 (by decide) (by decide) dO.1 df dsc rfl, toldV_p (by decide +kernel)]
          clear c0 c1
          fail "go"
          refine WS_iteG ?_
          fail "go"
          refine hr h16 (by omega) ip mM (by omega) (by omega) (mat_dat _ _ _) (mat_dat _ _ _) (mat_dat _ _ _) fun s17 h17 => ?_
          fail "go"
          refine ⟨fun h => by simp at h, fun _ => ?_⟩
          fail "go"
          exact ⟨_, rfl, rfl, h17.le (by simp; omega)⟩
  · intro ys s hl hs
    fail "go"
    rfl
end Rq
set_option Elab.async false
set_option linter.all false
set_option maxRecDepth 100000
set_option maxHeartbeats 8000000
namespace K03
open PySem PySem.Spec Rm Rp
abbrev topS (i : Nat) : Stmt := PySem.Challenge.pw_rootrooms_k03_products_sums_times.main.body.getD i (.Pass ⟨0, 0, 0, 0⟩)
abbrev F0 : Fn := P_is_whole
abbrev F1 : Fn := P_is_prime 0 0
abbrev F2 : Fn := P_need_prime 1 1
abbrev F3 : Fn := P_flip_of
abbrev F4 : Fn := P_product_of 3
abbrev F5 : Fn := P_plus_of
abbrev F6 : Fn := P_times_of
abbrev F7 : Fn := P_is_size 0 1
abbrev F8 : Fn := P_is_row 0
abbrev F9 : Fn := P_has_form 7 8
abbrev F10 : Fn := P_need_matrices 2 9 3
abbrev F11 : Fn := P_need_fit 4
abbrev F12 : Fn := P_product 10 11 4
abbrev F13 : Fn := P_plus 10 11 5
abbrev F14 : Fn := P_times 2 0 10 6 2
abbrev F15 : Fn := P_flipped 10 3
abbrev F16 : Fn := P_law_spread
abbrev F17 : Fn := P_law_open
abbrev F18 : Fn := P_law_anew
abbrev F19 : Fn := P_law_take 16
abbrev F20 : Fn := P_law_one 19
abbrev F21 : Fn := P_law_wrong_number 20 19
abbrev F22 : Fn := P_law_prime 20
abbrev F23 : Fn := P_law_matrix 19
abbrev F24 : Fn := P_law_times
abbrev F25 : Fn := P_law_refusal 3 2 1 4
abbrev F26 : Fn := P_law_told 12 13 14 15 25 0
abbrev F27 : Fn := P_law_due 24
abbrev F28 : Fn := P_law_numbers_right 21 26
abbrev F29 : Fn := P_law_k03 17 22 18 19 23 20 26 27 28
abbrev fsL : List Fn := [F0, F1, F2, F3, F4, F5, F6, F7, F8, F9, F10, F11, F12, F13, F14, F15, F16, F17, F18, F19, F20, F21, F22, F23, F24, F25, F26, F27, F28, F29]
abbrev glL : List (Str × PV) := [("MOST_PRIME", (.int 97)), ("MOST", (.int 2000))]
abbrev clL : List Str := ["RoomError", "NoPrime", "NoNumber", "NoMatrix", "NoFit"]
abbrev ancL : List (List Nat) := [[0], [1, 0], [2, 0], [3, 0], [4, 0]]
abbrev rsL : List Nat := [1, 2, 3, 4]
abbrev TL : Gtab := ⟨fsL.map fun F => (F.nm, F.np, F.ks), glL, clL, rsL, [], []⟩
theorem ck0 : fnC TL F0 (topS 8) = true := by decide +kernel
theorem ck1 : fnC TL F1 (topS 9) = true := by decide +kernel
theorem ck2 : fnC TL F2 (topS 10) = true := by decide +kernel
theorem ck3 : fnC TL F3 (topS 12) = true := by decide +kernel
theorem ck4 : fnC TL F4 (topS 13) = true := by decide +kernel
theorem ck5 : fnC TL F5 (topS 14) = true := by decide +kernel
theorem ck6 : fnC TL F6 (topS 15) = true := by decide +kernel
theorem ck7 : fnC TL F7 (topS 18) = true := by decide +kernel
theorem ck8 : fnC TL F8 (topS 19) = true := by decide +kernel
theorem ck9 : fnC TL F9 (topS 20) = true := by decide +kernel
theorem ck10 : fnC TL F10 (topS 21) = true := by decide +kernel
theorem ck11 : fnC TL F11 (topS 22) = true := by decide +kernel
theorem ck12 : fnC TL F12 (topS 23) = true := by decide +kernel
theorem ck13 : fnC TL F13 (topS 24) = true := by decide +kernel
theorem ck14 : fnC TL F14 (topS 25) = true := by decide +kernel
theorem ck15 : fnC TL F15 (topS 26) = true := by decide +kernel
theorem ck16 : fnC TL F16 (topS 28) = true := by decide +kernel
theorem ck17 : fnC TL F17 (topS 29) = true := by decide +kernel
theorem ck18 : fnC TL F18 (topS 30) = true := by decide +kernel
theorem ck19 : fnC TL F19 (topS 31) = true := by decide +kernel
theorem ck20 : fnC TL F20 (topS 32) = true := by decide +kernel
theorem ck21 : fnC TL F21 (topS 33) = true := by decide +kernel
theorem ck22 : fnC TL F22 (topS 34) = true := by decide +kernel
theorem ck23 : fnC TL F23 (topS 35) = true := by decide +kernel
theorem ck24 : fnC TL F24 (topS 36) = true := by decide +kernel
theorem ck25 : fnC TL F25 (topS 37) = true := by decide +kernel
theorem ck26 : fnC TL F26 (topS 38) = true := by decide +kernel
theorem ck27 : fnC TL F27 (topS 39) = true := by decide +kernel
theorem ck28 : fnC TL F28 (topS 40) = true := by decide +kernel
theorem ck29 : fnC TL F29 (topS 41) = true := by decide +kernel
end K03
set_option Elab.async false
set_option linter.all false
set_option maxRecDepth 100000
set_option maxHeartbeats 8000000
namespace K03
open PySem PySem.Spec Rm Rp Rq
abbrev SG (n : Nat) : Sig := sigAt fsL (glL.map (·.2)) ancL 0 n
theorem call_at {n j : Nat} {F : Fn} (h : fsL[j]? = some F) (ps : List PV) (st : Sto) : (SG (n + 1)).call j ps st = runFn (SG n) F ps st := by
  show (match fsL[j]? with | some F => runFn (SG n) F ps st | none => .bad) = _
  rw [h]
theorem glb0 (n : Nat) : (SG n).glb[0]? = some (.int 97) := by cases n <;> rfl
theorem glb1 (n : Nat) : (SG n).glb[1]? = some (.int 2000) := by cases n <;> rfl
theorem anc0 (n : Nat) : (SG n).anc = [[0], [1, 0], [2, 0], [3, 0], [4, 0]] := by cases n <;> rfl
theorem whole (n : Nat) : WholeOk (SG (n + 1)) 0 := fun p st h => by rw [call_at (F := F0) rfl]; exact whole_run _ p st h
theorem prime (n : Nat) : PrimeOk (SG (n + 2)) 1 := fun p st h => by rw [call_at (F := F1) rfl]; exact prime_run _ 0 0 (whole n) (glb0 _) p st h
theorem need (n : Nat) : NeedOk (SG (n + 3)) 2 1 := fun p st h => by rw [call_at (F := F2) rfl]; exact need_run _ 1 1 (prime n) p st h
theorem flipf (n : Nat) : FlipS (SG (n + 1)) 3 := fun h => by rw [call_at (F := F3) rfl]; exact flip_s _ _ h
theorem prodf (n : Nat) : ProdS (SG (n + 2)) 4 := fun p0 p1 h h2 => by rw [call_at (F := F4) rfl]; exact prod_s _ 3 (flipf n) _ p0 p1 h h2
theorem plusf (n : Nat) : PlusS (SG (n + 1)) 5 := fun p0 p1 h h2 => by rw [call_at (F := F5) rfl]; exact plus_s _ _ p0 p1 h h2
theorem timesf (n : Nat) : TimesS (SG (n + 1)) 6 := fun p0 p1 h => by rw [call_at (F := F6) rfl]; exact times_s _ _ p0 p1 h
theorem size (n : Nat) : SizeOk (SG (n + 2)) 7 := fun p st h => by rw [call_at (F := F7) rfl]; exact size_run _ 0 1 (whole n) (glb1 _) p st h
theorem row (n : Nat) : RowOk (SG (n + 2)) 8 := fun t c p st h => by rw [call_at (F := F8) rfl]; exact row_run _ 0 (whole n) t c p st h
theorem form (n : Nat) : FormOk (SG (n + 3)) 9 := fun t p st h => by rw [call_at (F := F9) rfl]; exact form_run _ 7 8 (size n) (row n) t p st h
theorem needm (n : Nat) : NMsOk (SG (n + 4)) 10 1 3 := fun ts q st h hq => by rw [call_at (F := F10) rfl]; exact nms_run _ 2 9 1 3 (need n) (form n) ts q st h hq
theorem fit (n : Nat) : FitOk (SG (n + 1)) 11 4 := fun b st => by rw [call_at (F := F11) rfl]; exact fit_run _ 4 b st
theorem prodc (n : Nat) : ProductC (SG (n + 5)) 12 1 3 4 := fun dx dy hq k1 k2 k3 k4 => by rw [call_at (F := F12) rfl]; exact product_c _ 10 11 4 1 3 4 (needm_c (needm n)) (fit_c (fit (n + 3))) (prodf (n + 2)) dx dy hq k1 k2 k3 k4
theorem plusc (n : Nat) : PlusC (SG (n + 5)) 13 1 3 4 := fun dx dy hq k1 k2 k3 k4 => by rw [call_at (F := F13) rfl]; exact plus_c _ 10 11 5 1 3 4 (needm_c (needm n)) (fit_c (fit (n + 3))) (plusf (n + 3)) dx dy hq k1 k2 k3 k4
theorem timesc (n : Nat) : TimesC (SG (n + 5)) 14 1 2 3 := fun dn dx hq k1 k2 k3 k4 => by rw [call_at (F := F14) rfl]; exact times_c _ 2 0 10 6 2 1 3 (needp_c (need (n + 1))) (whole (n + 3)) (needm_c (needm n)) (timesf (n + 3)) dn dx hq k1 k2 k3 k4
theorem flipc (n : Nat) : FlipC (SG (n + 5)) 15 1 3 := fun dx hq k1 k2 k3 => by rw [call_at (F := F15) rfl]; exact flipped_c _ 10 3 1 3 (needm_c (needm n)) (flipf (n + 3)) dx hq k1 k2 k3
theorem spread (n : Nat) : SpreadOk (SG (n + 1)) 16 := fun c a st h0 h1 => by rw [call_at (F := F16) rfl]; exact spread_ok _ c a st h0 h1
theorem opens (n : Nat) : OpenOk (SG (n + 1)) 17 := fun ns => by rw [call_at (F := F17) rfl]; exact open_run _ ns
theorem anew (n : Nat) : AnewOk (SG (n + 1)) 18 := fun cs a z => by rw [call_at (F := F18) rfl]; exact anew_run _ cs a z
theorem take (n : Nat) : TakeOk (SG (n + 2)) 19 := fun cs a z many h0 h1 h2 h3 => by rw [call_at (F := F19) rfl]; exact take_run _ 16 (spread n) cs a z many h0 h1 h2 h3
theorem one (n : Nat) : OneOk (SG (n + 3)) 20 := fun cs a z xs h0 h1 h2 h3 hk => by rw [call_at (F := F20) rfl]; exact one_run _ 19 (take n) cs a z xs h0 h1 h2 h3 hk
theorem wrong (n : Nat) : WrongC (SG (n + 4)) 21 := fun hp hn p0 p1 h hr hc k1 k2 => by rw [call_at (F := F21) rfl]; exact wrong_c _ 20 19 (one_c (one n)) (take_c (take (n + 1))) hp hn p0 p1 h hr hc k1 k2
theorem plaw (n : Nat) : PLawOk (SG (n + 4)) 22 := fun cs a z h0 h1 => by rw [call_at (F := F22) rfl]; exact plaw_run _ 20 (one n) cs a z h0 h1
theorem lmat (n : Nat) : LMatOk (SG (n + 3)) 23 := fun cs a z high wide p h0 h1 h2 h3 h4 h5 h6 h7 => by rw [call_at (F := F23) rfl]; exact lmat_run _ 19 (take n) cs a z high wide p h0 h1 h2 h3 h4 h5 h6 h7
theorem ltimes (n : Nat) : LTimesS (SG (n + 1)) 24 := fun p0 p1 h h2 => by rw [call_at (F := F24) rfl]; exact ltimes_s _ _ p0 p1 h h2
theorem rP (n : Nat) : RefS (SG (n + 1)) 25 1 "prime" := by intro st; rw [call_at (F := F25) rfl]; exact ref_P _ (anc0 _) st
theorem rN (n : Nat) : RefS (SG (n + 1)) 25 2 "number" := by intro st; rw [call_at (F := F25) rfl]; exact ref_N _ (anc0 _) st
theorem rM (n : Nat) : RefS (SG (n + 1)) 25 3 "matrix" := by intro st; rw [call_at (F := F25) rfl]; exact ref_M _ (anc0 _) st
theorem rF (n : Nat) : RefS (SG (n + 1)) 25 4 "fit" := by intro st; rw [call_at (F := F25) rfl]; exact ref_F _ (anc0 _) st
theorem told (n : Nat) : ToldS (SG (n + 6)) 26 := fun w0 w1 hn dx dy hq => by rw [call_at (F := F26) rfl]; exact told_s _ 12 13 14 15 25 0 1 2 3 4 (prodc n) (plusc n) (timesc n) (flipc n) (rP (n + 4)) (rN (n + 4)) (rM (n + 4)) (rF (n + 4)) (by rw [anc0]; rfl) (by rw [anc0]; rfl) (by rw [anc0]; rfl) (by rw [anc0]; rfl) w0 w1 hn dx dy hq
theorem due (n : Nat) : DueS (SG (n + 2)) 27 := fun w0 w1 hp h h2 => by rw [call_at (F := F27) rfl]; exact due_s _ 24 (ltimes n) w0 w1 hp h h2
theorem right (n : Nat) : RightC (SG (n + 7)) 28 := fun hp hn ip h hr hc dx dy dz k => by rw [call_at (F := F28) rfl]; exact right_c _ 21 26 (wrong (n + 2)) (told n) hp hn ip h hr hc dx dy dz k
theorem law_run (ns : List Int) : ∃ st, runFn (sigAt fsL (glL.map (·.2)) ancL 0 7) F29 [.scr (ns.map .int)] [] = .ok (.bl true) st :=
  WO_true (law03 (SG 7) 17 22 18 19 23 20 26 27 28 (open_c (opens 6)) (plaw_c (plaw 3)) (anew_c (anew 6)) (take_c (take 5)) (lmat_c (lmat 4)) (one_c (one 4)) (told 1) (due 5) (right 0) ns)
end K03
set_option Elab.async false
set_option linter.all false
set_option maxRecDepth 100000
set_option maxHeartbeats 8000000
namespace K03
open PySem PySem.Spec Rm Rp
theorem still {K : PySem.W.Frag} {h : Heap} {mg : Str → Option Value} (X : K.In h) (G : h.Ns mainGlobals mg)
    {f0 : Addr} {od0 an0 : Option Addr} {oc0 kV0 dc0 pm0 cd0 ct0 : Value} {sl0 : Array (Option Value)}
    {f1 : Addr} {od1 an1 : Option Addr} {oc1 kV1 dc1 pm1 cd1 ct1 : Value} {sl1 : Array (Option Value)}
    {f2 : Addr} {od2 an2 : Option Addr} {oc2 kV2 dc2 pm2 cd2 ct2 : Value} {sl2 : Array (Option Value)}
    {f3 : Addr} {od3 an3 : Option Addr} {oc3 kV3 dc3 pm3 cd3 ct3 : Value} {sl3 : Array (Option Value)}
    {f4 : Addr} {od4 an4 : Option Addr} {oc4 kV4 dc4 pm4 cd4 ct4 : Value} {sl4 : Array (Option Value)}
    {f5 : Addr} {od5 an5 : Option Addr} {oc5 kV5 dc5 pm5 cd5 ct5 : Value} {sl5 : Array (Option Value)}
    {f6 : Addr} {od6 an6 : Option Addr} {oc6 kV6 dc6 pm6 cd6 ct6 : Value} {sl6 : Array (Option Value)}
    {f7 : Addr} {od7 an7 : Option Addr} {oc7 kV7 dc7 pm7 cd7 ct7 : Value} {sl7 : Array (Option Value)}
    {f8 : Addr} {od8 an8 : Option Addr} {oc8 kV8 dc8 pm8 cd8 ct8 : Value} {sl8 : Array (Option Value)}
    {f9 : Addr} {od9 an9 : Option Addr} {oc9 kV9 dc9 pm9 cd9 ct9 : Value} {sl9 : Array (Option Value)}
    {f10 : Addr} {od10 an10 : Option Addr} {oc10 kV10 dc10 pm10 cd10 ct10 : Value} {sl10 : Array (Option Value)}
    {f11 : Addr} {od11 an11 : Option Addr} {oc11 kV11 dc11 pm11 cd11 ct11 : Value} {sl11 : Array (Option Value)}
    {f12 : Addr} {od12 an12 : Option Addr} {oc12 kV12 dc12 pm12 cd12 ct12 : Value} {sl12 : Array (Option Value)}
    {f13 : Addr} {od13 an13 : Option Addr} {oc13 kV13 dc13 pm13 cd13 ct13 : Value} {sl13 : Array (Option Value)}
    {f14 : Addr} {od14 an14 : Option Addr} {oc14 kV14 dc14 pm14 cd14 ct14 : Value} {sl14 : Array (Option Value)}
    {f15 : Addr} {od15 an15 : Option Addr} {oc15 kV15 dc15 pm15 cd15 ct15 : Value} {sl15 : Array (Option Value)}
    {f16 : Addr} {od16 an16 : Option Addr} {oc16 kV16 dc16 pm16 cd16 ct16 : Value} {sl16 : Array (Option Value)}
    {f17 : Addr} {od17 an17 : Option Addr} {oc17 kV17 dc17 pm17 cd17 ct17 : Value} {sl17 : Array (Option Value)}
    {f18 : Addr} {od18 an18 : Option Addr} {oc18 kV18 dc18 pm18 cd18 ct18 : Value} {sl18 : Array (Option Value)}
    {f19 : Addr} {od19 an19 : Option Addr} {oc19 kV19 dc19 pm19 cd19 ct19 : Value} {sl19 : Array (Option Value)}
    {f20 : Addr} {od20 an20 : Option Addr} {oc20 kV20 dc20 pm20 cd20 ct20 : Value} {sl20 : Array (Option Value)}
    {f21 : Addr} {od21 an21 : Option Addr} {oc21 kV21 dc21 pm21 cd21 ct21 : Value} {sl21 : Array (Option Value)}
    {f22 : Addr} {od22 an22 : Option Addr} {oc22 kV22 dc22 pm22 cd22 ct22 : Value} {sl22 : Array (Option Value)}
    {f23 : Addr} {od23 an23 : Option Addr} {oc23 kV23 dc23 pm23 cd23 ct23 : Value} {sl23 : Array (Option Value)}
    {f24 : Addr} {od24 an24 : Option Addr} {oc24 kV24 dc24 pm24 cd24 ct24 : Value} {sl24 : Array (Option Value)}
    {f25 : Addr} {od25 an25 : Option Addr} {oc25 kV25 dc25 pm25 cd25 ct25 : Value} {sl25 : Array (Option Value)}
    {f26 : Addr} {od26 an26 : Option Addr} {oc26 kV26 dc26 pm26 cd26 ct26 : Value} {sl26 : Array (Option Value)}
    {f27 : Addr} {od27 an27 : Option Addr} {oc27 kV27 dc27 pm27 cd27 ct27 : Value} {sl27 : Array (Option Value)}
    {f28 : Addr} {od28 an28 : Option Addr} {oc28 kV28 dc28 pm28 cd28 ct28 : Value} {sl28 : Array (Option Value)}
    {f29 : Addr} {od29 an29 : Option Addr} {oc29 kV29 dc29 pm29 cd29 ct29 : Value} {sl29 : Array (Option Value)}
    (a0 : PySem.W.nsIn K mainGlobals "is_whole" = some (some (.ref f0))) (l0 : K.lookup f0 = some ⟨oc0, od0, .func (PySem.W.fnOf "is_whole" "is_whole" (L2.defArgs (topS 8)) (L2.defBody (topS 8)) (L2.defScope (topS 8)) .none kV0 dc0 pm0 an0 cd0 ct0), sl0⟩)
    (c0 : PySem.W.codeIn K cd0 "is_whole" = true) (k0 : PySem.W.keepIn K (.ref f0) = true)
    (a1 : PySem.W.nsIn K mainGlobals "is_prime" = some (some (.ref f1))) (l1 : K.lookup f1 = some ⟨oc1, od1, .func (PySem.W.fnOf "is_prime" "is_prime" (L2.defArgs (topS 9)) (L2.defBody (topS 9)) (L2.defScope (topS 9)) .none kV1 dc1 pm1 an1 cd1 ct1), sl1⟩)
    (c1 : PySem.W.codeIn K cd1 "is_prime" = true) (k1 : PySem.W.keepIn K (.ref f1) = true)
    (a2 : PySem.W.nsIn K mainGlobals "need_prime" = some (some (.ref f2))) (l2 : K.lookup f2 = some ⟨oc2, od2, .func (PySem.W.fnOf "need_prime" "need_prime" (L2.defArgs (topS 10)) (L2.defBody (topS 10)) (L2.defScope (topS 10)) .none kV2 dc2 pm2 an2 cd2 ct2), sl2⟩)
    (c2 : PySem.W.codeIn K cd2 "need_prime" = true) (k2 : PySem.W.keepIn K (.ref f2) = true)
    (a3 : PySem.W.nsIn K mainGlobals "flip_of" = some (some (.ref f3))) (l3 : K.lookup f3 = some ⟨oc3, od3, .func (PySem.W.fnOf "flip_of" "flip_of" (L2.defArgs (topS 12)) (L2.defBody (topS 12)) (L2.defScope (topS 12)) .none kV3 dc3 pm3 an3 cd3 ct3), sl3⟩)
    (c3 : PySem.W.codeIn K cd3 "flip_of" = true) (k3 : PySem.W.keepIn K (.ref f3) = true)
    (a4 : PySem.W.nsIn K mainGlobals "product_of" = some (some (.ref f4))) (l4 : K.lookup f4 = some ⟨oc4, od4, .func (PySem.W.fnOf "product_of" "product_of" (L2.defArgs (topS 13)) (L2.defBody (topS 13)) (L2.defScope (topS 13)) .none kV4 dc4 pm4 an4 cd4 ct4), sl4⟩)
    (c4 : PySem.W.codeIn K cd4 "product_of" = true) (k4 : PySem.W.keepIn K (.ref f4) = true)
    {t5 : Addr} {ot5 : Value} {odt5 : Option Addr} {nt5 : Nat} {slt5 : Array (Option Value)} {tk5_0 : Tok}
    (a5 : PySem.W.nsIn K mainGlobals "plus_of" = some (some (.ref f5))) (l5 : K.lookup f5 = some ⟨oc5, od5, .func (PySem.W.fnOf "plus_of" "plus_of" (L2.defArgs (topS 14)) (L2.defBody (topS 14)) (L2.defScope (topS 14)) (.ref t5) kV5 dc5 pm5 an5 cd5 ct5), sl5⟩)
    (lt5 : K.lookup t5 = some ⟨ot5, odt5, .seq #[.int 1 tk5_0] nt5, slt5⟩)
    (c5 : PySem.W.codeIn K cd5 "plus_of" = true) (k5 : PySem.W.keepIn K (.ref f5) = true)
    (a6 : PySem.W.nsIn K mainGlobals "times_of" = some (some (.ref f6))) (l6 : K.lookup f6 = some ⟨oc6, od6, .func (PySem.W.fnOf "times_of" "times_of" (L2.defArgs (topS 15)) (L2.defBody (topS 15)) (L2.defScope (topS 15)) .none kV6 dc6 pm6 an6 cd6 ct6), sl6⟩)
    (c6 : PySem.W.codeIn K cd6 "times_of" = true) (k6 : PySem.W.keepIn K (.ref f6) = true)
    (a7 : PySem.W.nsIn K mainGlobals "is_size" = some (some (.ref f7))) (l7 : K.lookup f7 = some ⟨oc7, od7, .func (PySem.W.fnOf "is_size" "is_size" (L2.defArgs (topS 18)) (L2.defBody (topS 18)) (L2.defScope (topS 18)) .none kV7 dc7 pm7 an7 cd7 ct7), sl7⟩)
    (c7 : PySem.W.codeIn K cd7 "is_size" = true) (k7 : PySem.W.keepIn K (.ref f7) = true)
    (a8 : PySem.W.nsIn K mainGlobals "is_row" = some (some (.ref f8))) (l8 : K.lookup f8 = some ⟨oc8, od8, .func (PySem.W.fnOf "is_row" "is_row" (L2.defArgs (topS 19)) (L2.defBody (topS 19)) (L2.defScope (topS 19)) .none kV8 dc8 pm8 an8 cd8 ct8), sl8⟩)
    (c8 : PySem.W.codeIn K cd8 "is_row" = true) (k8 : PySem.W.keepIn K (.ref f8) = true)
    (a9 : PySem.W.nsIn K mainGlobals "has_form" = some (some (.ref f9))) (l9 : K.lookup f9 = some ⟨oc9, od9, .func (PySem.W.fnOf "has_form" "has_form" (L2.defArgs (topS 20)) (L2.defBody (topS 20)) (L2.defScope (topS 20)) .none kV9 dc9 pm9 an9 cd9 ct9), sl9⟩)
    (c9 : PySem.W.codeIn K cd9 "has_form" = true) (k9 : PySem.W.keepIn K (.ref f9) = true)
    (a10 : PySem.W.nsIn K mainGlobals "need_matrices" = some (some (.ref f10))) (l10 : K.lookup f10 = some ⟨oc10, od10, .func (PySem.W.fnOf "need_matrices" "need_matrices" (L2.defArgs (topS 21)) (L2.defBody (topS 21)) (L2.defScope (topS 21)) .none kV10 dc10 pm10 an10 cd10 ct10), sl10⟩)
    (c10 : PySem.W.codeIn K cd10 "need_matrices" = true) (k10 : PySem.W.keepIn K (.ref f10) = true)
    (a11 : PySem.W.nsIn K mainGlobals "need_fit" = some (some (.ref f11))) (l11 : K.lookup f11 = some ⟨oc11, od11, .func (PySem.W.fnOf "need_fit" "need_fit" (L2.defArgs (topS 22)) (L2.defBody (topS 22)) (L2.defScope (topS 22)) .none kV11 dc11 pm11 an11 cd11 ct11), sl11⟩)
    (c11 : PySem.W.codeIn K cd11 "need_fit" = true) (k11 : PySem.W.keepIn K (.ref f11) = true)
    (a12 : PySem.W.nsIn K mainGlobals "product" = some (some (.ref f12))) (l12 : K.lookup f12 = some ⟨oc12, od12, .func (PySem.W.fnOf "product" "product" (L2.defArgs (topS 23)) (L2.defBody (topS 23)) (L2.defScope (topS 23)) .none kV12 dc12 pm12 an12 cd12 ct12), sl12⟩)
    (c12 : PySem.W.codeIn K cd12 "product" = true) (k12 : PySem.W.keepIn K (.ref f12) = true)
    (a13 : PySem.W.nsIn K mainGlobals "plus" = some (some (.ref f13))) (l13 : K.lookup f13 = some ⟨oc13, od13, .func (PySem.W.fnOf "plus" "plus" (L2.defArgs (topS 24)) (L2.defBody (topS 24)) (L2.defScope (topS 24)) .none kV13 dc13 pm13 an13 cd13 ct13), sl13⟩)
    (c13 : PySem.W.codeIn K cd13 "plus" = true) (k13 : PySem.W.keepIn K (.ref f13) = true)
    (a14 : PySem.W.nsIn K mainGlobals "times" = some (some (.ref f14))) (l14 : K.lookup f14 = some ⟨oc14, od14, .func (PySem.W.fnOf "times" "times" (L2.defArgs (topS 25)) (L2.defBody (topS 25)) (L2.defScope (topS 25)) .none kV14 dc14 pm14 an14 cd14 ct14), sl14⟩)
    (c14 : PySem.W.codeIn K cd14 "times" = true) (k14 : PySem.W.keepIn K (.ref f14) = true)
    (a15 : PySem.W.nsIn K mainGlobals "flipped" = some (some (.ref f15))) (l15 : K.lookup f15 = some ⟨oc15, od15, .func (PySem.W.fnOf "flipped" "flipped" (L2.defArgs (topS 26)) (L2.defBody (topS 26)) (L2.defScope (topS 26)) .none kV15 dc15 pm15 an15 cd15 ct15), sl15⟩)
    (c15 : PySem.W.codeIn K cd15 "flipped" = true) (k15 : PySem.W.keepIn K (.ref f15) = true)
    (a16 : PySem.W.nsIn K mainGlobals "_law_spread" = some (some (.ref f16))) (l16 : K.lookup f16 = some ⟨oc16, od16, .func (PySem.W.fnOf "_law_spread" "_law_spread" (L2.defArgs (topS 28)) (L2.defBody (topS 28)) (L2.defScope (topS 28)) .none kV16 dc16 pm16 an16 cd16 ct16), sl16⟩)
    (c16 : PySem.W.codeIn K cd16 "_law_spread" = true) (k16 : PySem.W.keepIn K (.ref f16) = true)
    (a17 : PySem.W.nsIn K mainGlobals "_law_open" = some (some (.ref f17))) (l17 : K.lookup f17 = some ⟨oc17, od17, .func (PySem.W.fnOf "_law_open" "_law_open" (L2.defArgs (topS 29)) (L2.defBody (topS 29)) (L2.defScope (topS 29)) .none kV17 dc17 pm17 an17 cd17 ct17), sl17⟩)
    (c17 : PySem.W.codeIn K cd17 "_law_open" = true) (k17 : PySem.W.keepIn K (.ref f17) = true)
    (a18 : PySem.W.nsIn K mainGlobals "_law_anew" = some (some (.ref f18))) (l18 : K.lookup f18 = some ⟨oc18, od18, .func (PySem.W.fnOf "_law_anew" "_law_anew" (L2.defArgs (topS 30)) (L2.defBody (topS 30)) (L2.defScope (topS 30)) .none kV18 dc18 pm18 an18 cd18 ct18), sl18⟩)
    (c18 : PySem.W.codeIn K cd18 "_law_anew" = true) (k18 : PySem.W.keepIn K (.ref f18) = true)
    (a19 : PySem.W.nsIn K mainGlobals "_law_take" = some (some (.ref f19))) (l19 : K.lookup f19 = some ⟨oc19, od19, .func (PySem.W.fnOf "_law_take" "_law_take" (L2.defArgs (topS 31)) (L2.defBody (topS 31)) (L2.defScope (topS 31)) .none kV19 dc19 pm19 an19 cd19 ct19), sl19⟩)
    (c19 : PySem.W.codeIn K cd19 "_law_take" = true) (k19 : PySem.W.keepIn K (.ref f19) = true)
    (a20 : PySem.W.nsIn K mainGlobals "_law_one" = some (some (.ref f20))) (l20 : K.lookup f20 = some ⟨oc20, od20, .func (PySem.W.fnOf "_law_one" "_law_one" (L2.defArgs (topS 32)) (L2.defBody (topS 32)) (L2.defScope (topS 32)) .none kV20 dc20 pm20 an20 cd20 ct20), sl20⟩)
    (c20 : PySem.W.codeIn K cd20 "_law_one" = true) (k20 : PySem.W.keepIn K (.ref f20) = true)
    (a21 : PySem.W.nsIn K mainGlobals "_law_wrong_number" = some (some (.ref f21))) (l21 : K.lookup f21 = some ⟨oc21, od21, .func (PySem.W.fnOf "_law_wrong_number" "_law_wrong_number" (L2.defArgs (topS 33)) (L2.defBody (topS 33)) (L2.defScope (topS 33)) .none kV21 dc21 pm21 an21 cd21 ct21), sl21⟩)
    (c21 : PySem.W.codeIn K cd21 "_law_wrong_number" = true) (k21 : PySem.W.keepIn K (.ref f21) = true)
    (a22 : PySem.W.nsIn K mainGlobals "_law_prime" = some (some (.ref f22))) (l22 : K.lookup f22 = some ⟨oc22, od22, .func (PySem.W.fnOf "_law_prime" "_law_prime" (L2.defArgs (topS 34)) (L2.defBody (topS 34)) (L2.defScope (topS 34)) .none kV22 dc22 pm22 an22 cd22 ct22), sl22⟩)
    (c22 : PySem.W.codeIn K cd22 "_law_prime" = true) (k22 : PySem.W.keepIn K (.ref f22) = true)
    (a23 : PySem.W.nsIn K mainGlobals "_law_matrix" = some (some (.ref f23))) (l23 : K.lookup f23 = some ⟨oc23, od23, .func (PySem.W.fnOf "_law_matrix" "_law_matrix" (L2.defArgs (topS 35)) (L2.defBody (topS 35)) (L2.defScope (topS 35)) .none kV23 dc23 pm23 an23 cd23 ct23), sl23⟩)
    (c23 : PySem.W.codeIn K cd23 "_law_matrix" = true) (k23 : PySem.W.keepIn K (.ref f23) = true)
    (a24 : PySem.W.nsIn K mainGlobals "_law_times" = some (some (.ref f24))) (l24 : K.lookup f24 = some ⟨oc24, od24, .func (PySem.W.fnOf "_law_times" "_law_times" (L2.defArgs (topS 36)) (L2.defBody (topS 36)) (L2.defScope (topS 36)) .none kV24 dc24 pm24 an24 cd24 ct24), sl24⟩)
    (c24 : PySem.W.codeIn K cd24 "_law_times" = true) (k24 : PySem.W.keepIn K (.ref f24) = true)
    (a25 : PySem.W.nsIn K mainGlobals "_law_refusal" = some (some (.ref f25))) (l25 : K.lookup f25 = some ⟨oc25, od25, .func (PySem.W.fnOf "_law_refusal" "_law_refusal" (L2.defArgs (topS 37)) (L2.defBody (topS 37)) (L2.defScope (topS 37)) .none kV25 dc25 pm25 an25 cd25 ct25), sl25⟩)
    (c25 : PySem.W.codeIn K cd25 "_law_refusal" = true) (k25 : PySem.W.keepIn K (.ref f25) = true)
    (a26 : PySem.W.nsIn K mainGlobals "_law_told" = some (some (.ref f26))) (l26 : K.lookup f26 = some ⟨oc26, od26, .func (PySem.W.fnOf "_law_told" "_law_told" (L2.defArgs (topS 38)) (L2.defBody (topS 38)) (L2.defScope (topS 38)) .none kV26 dc26 pm26 an26 cd26 ct26), sl26⟩)
    (c26 : PySem.W.codeIn K cd26 "_law_told" = true) (k26 : PySem.W.keepIn K (.ref f26) = true)
    (a27 : PySem.W.nsIn K mainGlobals "_law_due" = some (some (.ref f27))) (l27 : K.lookup f27 = some ⟨oc27, od27, .func (PySem.W.fnOf "_law_due" "_law_due" (L2.defArgs (topS 39)) (L2.defBody (topS 39)) (L2.defScope (topS 39)) .none kV27 dc27 pm27 an27 cd27 ct27), sl27⟩)
    (c27 : PySem.W.codeIn K cd27 "_law_due" = true) (k27 : PySem.W.keepIn K (.ref f27) = true)
    (a28 : PySem.W.nsIn K mainGlobals "_law_numbers_right" = some (some (.ref f28))) (l28 : K.lookup f28 = some ⟨oc28, od28, .func (PySem.W.fnOf "_law_numbers_right" "_law_numbers_right" (L2.defArgs (topS 40)) (L2.defBody (topS 40)) (L2.defScope (topS 40)) .none kV28 dc28 pm28 an28 cd28 ct28), sl28⟩)
    (c28 : PySem.W.codeIn K cd28 "_law_numbers_right" = true) (k28 : PySem.W.keepIn K (.ref f28) = true)
    (a29 : PySem.W.nsIn K mainGlobals "law" = some (some (.ref f29))) (l29 : K.lookup f29 = some ⟨oc29, od29, .func (PySem.W.fnOf "law" "law" (L2.defArgs (topS 41)) (L2.defBody (topS 41)) (L2.defScope (topS 41)) .none kV29 dc29 pm29 an29 cd29 ct29), sl29⟩)
    (c29 : PySem.W.codeIn K cd29 "law" = true) (k29 : PySem.W.keepIn K (.ref f29) = true)
    (hc : clsB K clL ancL rsL = true) (hb : bltB K = true) (hg : glB K glL = true) : ∃ (T : Gtab) (C : Nat → Addr), Still T C fsL (glL.map (·.2)) ancL K mg := by
  obtain ⟨q1, q2, q3⟩ := clsB_ok X G hc
  refine ⟨TL, clsAt K clL, rfl, fun j F e => ?_, bltB_ok X G hb, glB_ok X G hg, q1, q2, ⟨rfl, rfl⟩, q3⟩
  match j, e with
  | 0, e =>
    cases e
    exact ⟨topS 8, fnAt_mk X G a0 l0 c0 k0 rfl fun _ _ _ _ _ _ us ws h1 h2 => match us, ws, h1, h2 with | [_], [], _, _ => rfl, ck0⟩
  | 1, e =>
    cases e
    exact ⟨topS 9, fnAt_mk X G a1 l1 c1 k1 rfl fun _ _ _ _ _ _ us ws h1 h2 => match us, ws, h1, h2 with | [_], [], _, _ => rfl, ck1⟩
  | 2, e =>
    cases e
    exact ⟨topS 10, fnAt_mk X G a2 l2 c2 k2 rfl fun _ _ _ _ _ _ us ws h1 h2 => match us, ws, h1, h2 with | [_], [], _, _ => rfl, ck2⟩
  | 3, e =>
    cases e
    exact ⟨topS 12, fnAt_mk X G a3 l3 c3 k3 rfl fun _ _ _ _ _ _ us ws h1 h2 => match us, ws, h1, h2 with | [_], [], _, _ => rfl, ck3⟩
  | 4, e =>
    cases e
    exact ⟨topS 13, fnAt_mk X G a4 l4 c4 k4 rfl fun _ _ _ _ _ _ us ws h1 h2 => match us, ws, h1, h2 with | [_, _, _], [], _, _ => rfl, ck4⟩
  | 5, e =>
    cases e
    exact ⟨topS 14, fnAt_mkD (j := 0) (ds := [.int (1)]) X G a5 l5 c5 k5 lt5 rfl (.cons ⟨tk5_0, rfl⟩ .nil) (fun _ _ _ => (.cons (.int _) .nil)) fun _ _ _ _ _ _ us ws h1 h2 => match us, ws, h1, h2 with | [_, _, _], [], _, _ => ⟨_, rfl, rfl⟩, ck5⟩
  | 6, e =>
    cases e
    exact ⟨topS 15, fnAt_mk X G a6 l6 c6 k6 rfl fun _ _ _ _ _ _ us ws h1 h2 => match us, ws, h1, h2 with | [_, _, _], [], _, _ => rfl, ck6⟩
  | 7, e =>
    cases e
    exact ⟨topS 18, fnAt_mk X G a7 l7 c7 k7 rfl fun _ _ _ _ _ _ us ws h1 h2 => match us, ws, h1, h2 with | [_], [], _, _ => rfl, ck7⟩
  | 8, e =>
    cases e
    exact ⟨topS 19, fnAt_mk X G a8 l8 c8 k8 rfl fun _ _ _ _ _ _ us ws h1 h2 => match us, ws, h1, h2 with | [_, _, _], [], _, _ => rfl, ck8⟩
  | 9, e =>
    cases e
    exact ⟨topS 20, fnAt_mk X G a9 l9 c9 k9 rfl fun _ _ _ _ _ _ us ws h1 h2 => match us, ws, h1, h2 with | [_, _], [], _, _ => rfl, ck9⟩
  | 10, e =>
    cases e
    exact ⟨topS 21, fnAt_mk X G a10 l10 c10 k10 rfl fun _ _ _ _ _ _ us ws h1 h2 => match us, ws, h1, h2 with | [_, _], [], _, _ => rfl, ck10⟩
  | 11, e =>
    cases e
    exact ⟨topS 22, fnAt_mk X G a11 l11 c11 k11 rfl fun _ _ _ _ _ _ us ws h1 h2 => match us, ws, h1, h2 with | [_], [], _, _ => rfl, ck11⟩
  | 12, e =>
    cases e
    exact ⟨topS 23, fnAt_mk X G a12 l12 c12 k12 rfl fun _ _ _ _ _ _ us ws h1 h2 => match us, ws, h1, h2 with | [_, _], [_], _, _ => rfl, ck12⟩
  | 13, e =>
    cases e
    exact ⟨topS 24, fnAt_mk X G a13 l13 c13 k13 rfl fun _ _ _ _ _ _ us ws h1 h2 => match us, ws, h1, h2 with | [_, _], [_], _, _ => rfl, ck13⟩
  | 14, e =>
    cases e
    exact ⟨topS 25, fnAt_mk X G a14 l14 c14 k14 rfl fun _ _ _ _ _ _ us ws h1 h2 => match us, ws, h1, h2 with | [_, _], [_], _, _ => rfl, ck14⟩
  | 15, e =>
    cases e
    exact ⟨topS 26, fnAt_mk X G a15 l15 c15 k15 rfl fun _ _ _ _ _ _ us ws h1 h2 => match us, ws, h1, h2 with | [_], [_], _, _ => rfl, ck15⟩
  | 16, e =>
    cases e
    exact ⟨topS 28, fnAt_mk X G a16 l16 c16 k16 rfl fun _ _ _ _ _ _ us ws h1 h2 => match us, ws, h1, h2 with | [_, _], [], _, _ => rfl, ck16⟩
  | 17, e =>
    cases e
    exact ⟨topS 29, fnAt_mk X G a17 l17 c17 k17 rfl fun _ _ _ _ _ _ us ws h1 h2 => match us, ws, h1, h2 with | [_], [], _, _ => rfl, ck17⟩
  | 18, e =>
    cases e
    exact ⟨topS 30, fnAt_mk X G a18 l18 c18 k18 rfl fun _ _ _ _ _ _ us ws h1 h2 => match us, ws, h1, h2 with | [_], [], _, _ => rfl, ck18⟩
  | 19, e =>
    cases e
    exact ⟨topS 31, fnAt_mk X G a19 l19 c19 k19 rfl fun _ _ _ _ _ _ us ws h1 h2 => match us, ws, h1, h2 with | [_, _], [], _, _ => rfl, ck19⟩
  | 20, e =>
    cases e
    exact ⟨topS 32, fnAt_mk X G a20 l20 c20 k20 rfl fun _ _ _ _ _ _ us ws h1 h2 => match us, ws, h1, h2 with | [_, _], [], _, _ => rfl, ck20⟩
  | 21, e =>
    cases e
    exact ⟨topS 33, fnAt_mk X G a21 l21 c21 k21 rfl fun _ _ _ _ _ _ us ws h1 h2 => match us, ws, h1, h2 with | [_, _, _], [], _, _ => rfl, ck21⟩
  | 22, e =>
    cases e
    exact ⟨topS 34, fnAt_mk X G a22 l22 c22 k22 rfl fun _ _ _ _ _ _ us ws h1 h2 => match us, ws, h1, h2 with | [_], [], _, _ => rfl, ck22⟩
  | 23, e =>
    cases e
    exact ⟨topS 35, fnAt_mk X G a23 l23 c23 k23 rfl fun _ _ _ _ _ _ us ws h1 h2 => match us, ws, h1, h2 with | [_, _, _, _], [], _, _ => rfl, ck23⟩
  | 24, e =>
    cases e
    exact ⟨topS 36, fnAt_mk X G a24 l24 c24 k24 rfl fun _ _ _ _ _ _ us ws h1 h2 => match us, ws, h1, h2 with | [_, _, _], [], _, _ => rfl, ck24⟩
  | 25, e =>
    cases e
    exact ⟨topS 37, fnAt_mk X G a25 l25 c25 k25 rfl fun _ _ _ _ _ _ us ws h1 h2 => match us, ws, h1, h2 with | [_], [], _, _ => rfl, ck25⟩
  | 26, e =>
    cases e
    exact ⟨topS 38, fnAt_mk X G a26 l26 c26 k26 rfl fun _ _ _ _ _ _ us ws h1 h2 => match us, ws, h1, h2 with | [_, _, _, _, _], [], _, _ => rfl, ck26⟩
  | 27, e =>
    cases e
    exact ⟨topS 39, fnAt_mk X G a27 l27 c27 k27 rfl fun _ _ _ _ _ _ us ws h1 h2 => match us, ws, h1, h2 with | [_, _, _, _, _], [], _, _ => rfl, ck27⟩
  | 28, e =>
    cases e
    exact ⟨topS 40, fnAt_mk X G a28 l28 c28 k28 rfl fun _ _ _ _ _ _ us ws h1 h2 => match us, ws, h1, h2 with | [_, _, _, _], [], _, _ => rfl, ck28⟩
  | 29, e =>
    cases e
    exact ⟨topS 41, fnAt_mk X G a29 l29 c29 k29 rfl fun _ _ _ _ _ _ us ws h1 h2 => match us, ws, h1, h2 with | [_], [], _, _ => rfl, ck29⟩
  | n + 30, e => simp [fsL] at e
theorem law_fn : fsL[29]? = some F29 := rfl
theorem law_all (ns : List Int) (h1 : ns.length ≤ 63) (h2 : ∀ z ∈ ns, Builtin.Int.intBits z ≤ 1048576) : ∃ st, runFn (sigAt fsL (glL.map (·.2)) ancL 0 7) F29 [.scr (ns.map .int)] [] = .ok (.bl true) st := law_run ns
end K03
open PySem PySem.W PyProof.Rows
set_option maxHeartbeats 8000000
theorem PySem.Challenge.cw_rootrooms_k03_products_sums_times_holds : PySem.Challenge.rw_rootrooms_k03_products_sums_times.Holds := by
  w_on; o_law; k_head; (case hw => w_witness2)
  k_fill
  apply Rm.walk_run (l := PySem.Challenge.rw_rootrooms_k03_products_sums_times) (n := 63) (k := 7) (fs := K03.fsL) (gl := K03.glL.map (·.2)) (anc := K03.ancL) (fuel := 0) (j := 29) (L := K03.F29)
  case hn => rfl
  case hn2 => decide
  case hdf => rfl
  case hr => exact ⟨rfl, by decide, by decide⟩
  case hY => exact fun w h Y => PySem.W.kIn_of Y
  case hL => exact K03.law_fn
  case hnm => rfl
  case hnp => rfl
  case hks => rfl
  case hrun => exact K03.law_all
  case F =>
    intro w mg h KX G
    refine' K03.still KX G ?a0 ?l0 ?c0 ?k0 ?a1 ?l1 ?c1 ?k1 ?a2 ?l2 ?c2 ?k2 ?a3 ?l3 ?c3 ?k3 ?a4 ?l4 ?c4 ?k4 ?a5 ?l5 ?lt5 ?c5 ?k5 ?a6 ?l6 ?c6 ?k6 ?a7 ?l7 ?c7 ?k7 ?a8 ?l8 ?c8 ?k8 ?a9 ?l9 ?c9 ?k9 ?a10 ?l10 ?c10 ?k10 ?a11 ?l11 ?c11 ?k11 ?a12 ?l12 ?c12 ?k12 ?a13 ?l13 ?c13 ?k13 ?a14 ?l14 ?c14 ?k14 ?a15 ?l15 ?c15 ?k15 ?a16 ?l16 ?c16 ?k16 ?a17 ?l17 ?c17 ?k17 ?a18 ?l18 ?c18 ?k18 ?a19 ?l19 ?c19 ?k19 ?a20 ?l20 ?c20 ?k20 ?a21 ?l21 ?c21 ?k21 ?a22 ?l22 ?c22 ?k22 ?a23 ?l23 ?c23 ?k23 ?a24 ?l24 ?c24 ?k24 ?a25 ?l25 ?c25 ?k25 ?a26 ?l26 ?c26 ?k26 ?a27 ?l27 ?c27 ?k27 ?a28 ?l28 ?c28 ?k28 ?a29 ?l29 ?c29 ?k29 ?zc ?zb ?zg
    (case a0 => k_is)
    (case l0 => k_is)
    (case c0 => k_is)
    (case k0 => k_is)
    (case a1 => k_is)
    (case l1 => k_is)
    (case c1 => k_is)
    (case k1 => k_is)
    (case a2 => k_is)
    (case l2 => k_is)
    (case c2 => k_is)
    (case k2 => k_is)
    (case a3 => k_is)
    (case l3 => k_is)
    (case c3 => k_is)
    (case k3 => k_is)
    (case a4 => k_is)
    (case l4 => k_is)
    (case c4 => k_is)
    (case k4 => k_is)
    (case a5 => k_is)
    (case l5 => k_is)
    (case lt5 => k_is)
    (case c5 => k_is)
    (case k5 => k_is)
    (case a6 => k_is)
    (case l6 => k_is)
    (case c6 => k_is)
    (case k6 => k_is)
    (case a7 => k_is)
    (case l7 => k_is)
    (case c7 => k_is)
    (case k7 => k_is)
    (case a8 => k_is)
    (case l8 => k_is)
    (case c8 => k_is)
    (case k8 => k_is)
    (case a9 => k_is)
    (case l9 => k_is)
    (case c9 => k_is)
    (case k9 => k_is)
    (case a10 => k_is)
    (case l10 => k_is)
    (case c10 => k_is)
    (case k10 => k_is)
    (case a11 => k_is)
    (case l11 => k_is)
    (case c11 => k_is)
    (case k11 => k_is)
    (case a12 => k_is)
    (case l12 => k_is)
    (case c12 => k_is)
    (case k12 => k_is)
    (case a13 => k_is)
    (case l13 => k_is)
    (case c13 => k_is)
    (case k13 => k_is)
    (case a14 => k_is)
    (case l14 => k_is)
    (case c14 => k_is)
    (case k14 => k_is)
    (case a15 => k_is)
    (case l15 => k_is)
    (case c15 => k_is)
    (case k15 => k_is)
    (case a16 => k_is)
    (case l16 => k_is)
    (case c16 => k_is)
    (case k16 => k_is)
    (case a17 => k_is)
    (case l17 => k_is)
    (case c17 => k_is)
    (case k17 => k_is)
    (case a18 => k_is)
    (case l18 => k_is)
    (case c18 => k_is)
    (case k18 => k_is)
    (case a19 => k_is)
    (case l19 => k_is)
    (case c19 => k_is)
    (case k19 => k_is)
    (case a20 => k_is)
    (case l20 => k_is)
    (case c20 => k_is)
    (case k20 => k_is)
    (case a21 => k_is)
    (case l21 => k_is)
    (case c21 => k_is)
    (case k21 => k_is)
    (case a22 => k_is)
    (case l22 => k_is)
    (case c22 => k_is)
    (case k22 => k_is)
    (case a23 => k_is)
    (case l23 => k_is)
    (case c23 => k_is)
    (case k23 => k_is)
    (case a24 => k_is)
    (case l24 => k_is)
    (case c24 => k_is)
    (case k24 => k_is)
    (case a25 => k_is)
    (case l25 => k_is)
    (case c25 => k_is)
    (case k25 => k_is)
    (case a26 => k_is)
    (case l26 => k_is)
    (case c26 => k_is)
    (case k26 => k_is)
    (case a27 => k_is)
    (case l27 => k_is)
    (case c27 => k_is)
    (case k27 => k_is)
    (case a28 => k_is)
    (case l28 => k_is)
    (case c28 => k_is)
    (case k28 => k_is)
    (case a29 => k_is)
    (case l29 => k_is)
    (case c29 => k_is)
    (case k29 => k_is)
    (case zc => kernel_rfl)
    (case zb => kernel_rfl)
    (case zg => kernel_rfl)
