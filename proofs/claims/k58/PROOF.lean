import PyProof.Rows.All
import Wide.All
import OpenK.AllK
import Wide.FinOn
import HandS.ForMost
import HandS.ForExc
import HandS.Iter
import HandS.Conv
import HandS.TupAny
import HandS.TupMul
import HandS.IsInst
import HandS.TryMany
import HandS.ExcOwn
import HandS.ExcInit
import HandS.CallLocal
import HandS.OwnEq
import HandS.Wide
import KE.SortData
import KE.SortKeyHeap
import HandS.TupLen
import HandS.Zip
import KE.GoesMore
import KE.GoesEnum
import HandS.SortKw
import KE.KIndexWalk
import HandS.More
import HandS.TupSets
import HandS.SetFor
import HandS.Strs
import HandS.Defaults
import HandS.Words
import HandS.WordsExc
import HandS.Head0
import HandS.Head1
import HandS.Head2
import HandS.HeadEnd
import HandS.HeadHook1
import HandS.HeadHook2
import HandS.HeadHook3
import HandS.HeadHook4
import PySem.Challenge.RW_conceptroads_k58_whole_looks_and_what_is
set_option Elab.async false
set_option linter.all false
set_option maxRecDepth 100000
set_option maxHeartbeats 0
set_option autoImplicit false
/-! ======== Pu1 ======== -/
/-! A small language of plain data: what the texts of this program use, and what it computes. -/
namespace Pu
open PySem

/-- plain data -/
inductive D where
  | non | bl (b : Bool) | int (i : Int) | str (s : Str) | tup (ds : List D) | lst (ds : List D) | fn (k : Nat) | ins (c : Nat) (ds : List D) | st | scr (ds : List D) | dic (ks : List (List Int)) (ds : List D)

mutual
def D.py : D → PyData
  | .non => .none
  | .bl b => .bool b
  | .int i => .int i
  | .str s => .str s
  | .tup ds => .tuple (D.pys ds)
  | .lst ds => .list (D.pys ds)
  | _ => .dict []
def D.pys : List D → List PyData
  | [] => []
  | d :: ds => d.py :: D.pys ds
end

abbrev Sx := Option (List D)
inductive R (α : Type) where
  | ok (a : α) (S : Sx)
  | exc (c : Nat) (p : Option D) (S : Sx)
  | stuck
def R.bind {α β : Type} (r : R α) (f : α → Sx → R β) : R β := match r with
  | .ok a S => f a S
  | .exc c p S => .exc c p S
  | .stuck => .stuck
def R.of {α : Type} (S : Sx) : Option α → R α
  | some a => .ok a S
  | none => .stuck

/-- what a slot holds: nothing known, a datum, a list of one's own that may be changed, an instance in the making -/
inductive Sl where
  | un | v (d : D) | b (ds : List D) | o (c : Nat) (fs : List (Str × D)) | dd (kvs : List (List Int × D))
abbrev Rho := List Sl

inductive Op where
  | add | sub | mul | fdiv | mod
inductive Cm where
  | eq | ne | lt | le | gt | ge | inn | nin
inductive Blt where
  | len | abs | int | tuple | list | sorted | sum | all | any | max | min | max2 | min2
inductive Ty where
  | int | bool | str | list | tuple | own (c : Nat)

inductive Tg where
  | nm (i : Nat) | tp (is : List Nat)

mutual
inductive E where
  | no | var (i : Nat) | int (i : Int) | bl (b : Bool) | non | str (s : Str) | gfn (k : Nat) | gint (k : Nat)
  | tup (es : Es) | lst (es : Es)
  | bin (op : Op) (a b : E) | neg (a : E) | cmp (c : Cm) (a b : E) | eqi (n : Bool) (a b : E) | chain (c1 c2 : Cm) (a b d : E) | isN (n : Bool) (a : E)
  | and (a b : E) | or (a b : E) | not (a : E) | ite (c a b : E)
  | call (k : Nat) (es : Es) | callv (i : Nat) (es : Es) | make (c : Nat) (es : Es) | makeD (c : Nat) (es : Es) (i : Int) | meth (k : Nat) (o : E) (es : Es)
  | blt (f : Blt) (es : Es) | isin (a : E) (one : Bool) (ts : List Ty)
  | fld (a : E) (f : Str) | idx (a b : E) | slc (a lo hi : E)
  | lc (elt : E) (tg : Tg) (src : Src) (cond : E) (own : List Nat)
  | lc2 (elt : E) (tg : Tg) (src : Src) (cond : E) (tg2 : Tg) (src2 : Src) (cond2 : E) (own own2 : List Nat)
  | tupS (s : Src) | lstS (s : Src) | sset (e : E)
  | sortk (e : E) (k : Nat)
  | dix (i : Nat) (k : E) | dgd (i : Nat) (k d : E) | din (n : Bool) (k : E) (i : Nat) | dlen (i : Nat) | dls (i : Nat) | sortkd (i k : Nat)
inductive Es where
  | nil | cons (e : E) (es : Es)
inductive Src where
  | ex (e : E) | rng1 (a : E) | rng2 (a b : E) | rng3 (a b c : E) | enum (e : E) | zip (a b : E) | dk (i : Nat)
end

mutual
inductive S where
  | asg (t : Tg) (e : E) | asgb (i : Nat) (e : E) | par (is : List Nat) (es : Es) | mv (i j : Nat)
  | app (i : Nat) (e : E) | ext (i : Nat) (e : E) | pop (t : Tg) (i : Nat) | setix (i : Nat) (k e : E) | setst (i : Nat) (k e : E)
  | setf (i : Nat) (f : Str) (e : E)
  | expr (e : E) | ret (e : E) | retb (i : Nat) | retf (e : E) | raise (c : Nat) (x : Str)
  | ite (c : E) (a b : Ss) | for_ (t : Tg) (s : Src) (body : Ss) (kill : List Nat) | while_ (c : E) (body : Ss) (kill : List Nat)
  | told (body : Ss) (c1 : Nat) (s1 : Str) (c2 : Nat) (i : Nat) (f : Str) (s2 : Str)
  | asgd (i : Nat) | asgd1 (i : Nat) (k e : E) | putd (i : Nat) (k e : E) | frzd (i : Nat)
  | frz (i : Nat) | pass
inductive Ss where
  | nil | cons (s : S) (ss : Ss)
end

/-! ### what it computes -/
def sameD (a b : D) : Option Bool := if SeqAt.shaped a.py && SeqAt.shaped b.py then some (PyData.eqv a.py b.py) else none
def alikeAllB (ds : List PyData) : Bool := ds.all fun d => ds.all fun e => PySem.W.alike d e
def sortableB (ds : List PyData) : Bool := (ds.all fun d => match d with | .tuple _ => true | _ => false) || ds.all fun d => match d with | .none => false | .tuple _ => false | _ => true
def sortOk (ks : List PyData) : Bool := alikeAllB ks && sortableB ks && ks.all SeqAt.shaped

def addD : D → D → Option D
  | .int i, .int j => some (.int (i + j))
  | .tup a, .tup b => if a.length + b.length ≤ sizeLine then some (.tup (a ++ b)) else none
  | .lst a, .lst b => if a.length + b.length ≤ sizeLine then some (.lst (a ++ b)) else none
  | .str a, .str b => if a.length + b.length ≤ sizeLine then some (.str (a ++ b)) else none
  | _, _ => none
def mulD : D → D → Option D
  | .int i, .int j => if (-(2 ^ 64) < i ∧ i < 2 ^ 64) ∨ (-(2 ^ 64) < j ∧ j < 2 ^ 64) then some (.int (i * j)) else none
  | .lst a, .int k => if 0 ≤ k ∧ k < 2 ^ 63 ∧ a.length * k.toNat ≤ sizeLine then some (.lst (List.replicate k.toNat a).flatten) else none
  | _, _ => none
def subD : D → D → Option D
  | .int i, .int j => some (.int (i - j))
  | _, _ => none
def divD : D → D → Option D
  | .int i, .int j => if 0 < j ∧ j < 1073741824 then some (.int (i / j)) else none
  | _, _ => none
def modD : D → D → Option D
  | .int i, .int j => if 0 < j then some (.int (i % j)) else none
  | _, _ => none
def binD : Op → D → D → Option D
  | .add => addD
  | .sub => subD
  | .mul => mulD
  | .fdiv => divD
  | .mod => modD
def ltD : D → D → Option D
  | .int i, .int j => some (.bl (decide (i < j)))
  | .tup a, .tup b => if (SeqAt.shaped (D.tup a).py && SeqAt.shaped (D.tup b).py) && PySem.W.alike (D.tup a).py (D.tup b).py then some (.bl (PySem.W.dataLt (D.tup a).py (D.tup b).py)) else none
  | _, _ => none
/-- is the datum among them -/
def memD (a : D) (ds : List D) : Option Bool := if SeqAt.shaped a.py && SeqAt.shaped (PyData.list (D.pys ds)) then some ((D.pys ds).any fun y => PyData.eqv y a.py) else none
def inD (a : D) : D → Option Bool
  | .tup ds => memD a ds
  | .lst ds => memD a ds
  | _ => none
def leD : D → D → Option D
  | .int i, .int j => some (.bl (decide (i ≤ j)))
  | _, _ => none
def gtD : D → D → Option D
  | .int i, .int j => some (.bl (decide (j < i)))
  | _, _ => none
def geD : D → D → Option D
  | .int i, .int j => some (.bl (decide (j ≤ i)))
  | _, _ => none
def cmpD : Cm → D → D → Option D
  | .eq, a, b => (sameD a b).map .bl
  | .ne, a, b => (sameD a b).map fun c => .bl (!c)
  | .lt, a, b => ltD a b
  | .le, a, b => leD a b
  | .gt, a, b => gtD a b
  | .ge, a, b => geD a b
  | .inn, a, b => (inD a b).map .bl
  | .nin, a, b => (inD a b).map fun c => .bl (!c)
def intsD : List D → Option (List Int)
  | [] => some []
  | .int i :: ds => (intsD ds).map (i :: ·)
  | _ => none
def blsD : List D → Option (List Bool)
  | [] => some []
  | .bl i :: ds => (blsD ds).map (i :: ·)
  | _ => none
def itemsD : D → Option (List D)
  | .tup ds => some ds
  | .lst ds => some ds
  | _ => none
def leastI (l : List Int) : Option Int := l.min?
def mostI (l : List Int) : Option Int := l.max?
def sortD (k : D → PyData) (ds : List D) : List D := ds.mergeSort (PySem.W.dataLe false k)
def bltD : Blt → List D → Option D
  | .len, [.tup ds] => some (.int ds.length)
  | .len, [.lst ds] => some (.int ds.length)
  | .len, [.str s] => if s.length ≤ sizeLine then some (.int s.length) else none
  | .abs, [.int i] => some (.int (if i < 0 then -i else i))
  | .int, [.int i] => some (.int i)
  | .tuple, [.lst ds] => some (.tup ds)
  | .tuple, [.tup ds] => some (.tup ds)
  | .list, [.lst ds] => some (.lst ds)
  | .list, [.tup ds] => some (.lst ds)
  | .sorted, [.lst ds] => if sortOk (D.pys ds) then some (.lst (sortD D.py ds)) else none
  | .sorted, [.tup ds] => if sortOk (D.pys ds) then some (.lst (sortD D.py ds)) else none
  | .sum, [.lst ds] => (intsD ds).map fun l => .int l.sum
  | .all, [.lst ds] => (blsD ds).map fun l => .bl (l.all id)
  | .any, [.lst ds] => (blsD ds).map fun l => .bl (l.any id)
  | .max, [.lst ds] => ((intsD ds).bind mostI).map .int
  | .min, [.lst ds] => ((intsD ds).bind leastI).map .int
  | .max2, [.int i, .int j] => some (.int (if j > i then j else i))
  | .min2, [.int i, .int j] => some (.int (if j < i then j else i))
  | _, _ => none
def isTy : D → Ty → Option Bool
  | .non, _ => some false
  | .bl _, t => some (match t with | .int => true | .bool => true | _ => false)
  | .int _, t => some (match t with | .int => true | _ => false)
  | .str _, t => some (match t with | .str => true | _ => false)
  | .tup _, t => some (match t with | .tuple => true | _ => false)
  | .lst _, t => some (match t with | .list => true | _ => false)
  | .ins c _, t => some (match t with | .own c' => c == c' | _ => false)
  | _, _ => none
def isTys (d : D) : List Ty → Option Bool
  | [] => some false
  | t :: ts => (isTy d t).bind fun b => if b then some true else isTys d ts
def cutD (xs : List D) (lo hi : Option Int) : List D := (xs.drop (HT.sIx xs.length 0 lo)).take (HT.sIx xs.length xs.length hi - HT.sIx xs.length 0 lo)
def idxD : D → D → Option D
  | .tup ds, .int i => L2.atI ds i
  | .lst ds, .int i => L2.atI ds i
  | _, _ => none
def idxS (x y : D) (S : Sx) : R D := match x with
  | .st => (match S with
    | some l => R.of S (idxD (.lst l) y)
    | none => .stuck)
  | _ => R.of S (idxD x y)
def slcD : D → Option Int → Option Int → Option D
  | .tup ds, lo, hi => some (.tup (cutD ds lo hi))
  | .lst ds, lo, hi => some (.lst (cutD ds lo hi))
  | .scr ds, lo, hi => some (.lst (cutD ds lo hi))
  | _, _, _ => none
def small (i : Int) : Bool := decide (-(2 ^ 62) ≤ i) && decide (i < 2 ^ 62)
/-! dicts, whose keys are rows of numbers -/
def keyD (k : List Int) : D := .tup (k.map .int)
def keyOf : D → Option (List Int)
  | .tup ds => intsD ds
  | _ => none
def rowsD : List D → Option (List (List Int))
  | [] => some []
  | d :: ds => (keyOf d).bind fun k => (rowsD ds).map (k :: ·)
/-- sorted without doubles -/
def insU {α : Type} [DecidableEq α] (lt : α → α → Bool) (x : α) : List α → List α
  | [] => [x]
  | y :: ys => if lt x y then x :: y :: ys else if x = y then y :: ys else y :: insU lt x ys
def sortU {α : Type} [DecidableEq α] (lt : α → α → Bool) : List α → List α
  | [] => []
  | x :: xs => insU lt x (sortU lt xs)
def ltI' (a b : Int) : Bool := decide (a < b)
def ltRow (a b : List Int) : Bool := decide (a < b)
/-- sorted(set(x)) -/
def ssetD (x : D) : Option D := (itemsD x).bind fun ds => if ds.length < 64 then (match intsD ds with
  | some l => some (.lst ((sortU ltI' l).map .int))
  | none => (rowsD ds).map fun L => .lst ((sortU ltRow L).map keyD)) else none
def dlook (l : List (List Int × D)) (k : List Int) : Option D := (l.find? fun kv => decide (kv.1 = k)).map (·.2)
def dput (l : List (List Int × D)) (k : List Int) (d : D) : List (List Int × D) := if (l.any fun kv => decide (kv.1 = k)) = true then l.map (fun kv => if kv.1 = k then (kv.1, d) else kv) else l ++ [(k, d)]
def dictAt (ρ : Rho) (i : Nat) : Option (List (List Int × D)) := match ρ[i]? with
  | some (.dd kvs) => some kvs
  | some (.v (.dic ks ds)) => some (ks.zip ds)
  | _ => none
def rngD (lo : Int) (n : Nat) : List D := (List.range n).map fun (k : Nat) => D.int (lo + (k : Int))
def enumD (ds : List D) : List D := (ds.zipIdx).map fun p => .tup [.int p.2, p.1]
def zipD (a b : List D) : List D := (a.zip b).map fun p => .tup [p.1, p.2]

def wipe (ρ : Rho) : List Nat → Rho
  | [] => ρ
  | v :: vs => (wipe ρ vs).set v .un
def bindAll : List Nat → List D → Rho → Option Rho
  | [], [], ρ => some ρ
  | i :: is, d :: ds, ρ => bindAll is ds (ρ.set i (.v d))
  | _, _, _ => none
def Tg.bind : Tg → D → Rho → Option Rho
  | .nm i, d, ρ => some (ρ.set i (.v d))
  | .tp is, .tup ds, ρ => bindAll is ds ρ
  | _, _, _ => none

/-- a way of reading: 0 a datum that stays, 1 to be looked at alone, 2 a new list -/
abbrev Md := Nat

structure G where
  fr : Nat → Bool
  call : Nat → List D → Sx → R D
  make : Nat → List D → Sx → R D
  flds : Nat → List Str
  gint : Nat → Int
  eqf : Nat → Option Nat
  wf : Nat

def G.call0 (g : G) (k : Nat) (ds : List D) (S : Sx) : R D := if g.fr k then .stuck else g.call k ds S
def lcGo (f : D → Sx → R (Option D)) : List D → Sx → R (List D)
  | [], S => .ok [] S
  | d :: ds, S => (f d S).bind fun o S1 => (lcGo f ds S1).bind fun r S2 => .ok (match o with | some x => x :: r | none => r) S2
def lc2Go (f : D → Sx → R (List D)) : List D → Sx → R (List D)
  | [], S => .ok [] S
  | d :: ds, S => (f d S).bind fun o S1 => (lc2Go f ds S1).bind fun r S2 => .ok (o ++ r) S2
def truth (r : R D) : R Bool := r.bind fun d S => match d with | .bl b => .ok b S | _ => .stuck
def condM (c : R Bool) (f : Sx → R D) : R (Option D) := c.bind fun b S => if b then (f S).bind fun x S => .ok (some x) S else .ok none S
def partR (r : R D) : R (Option Int) := r.bind fun x S => match x with | .int i => .ok (some i) S | _ => .stuck
def fldD (g : G) : D → Str → Option D
  | .ins c ds, f => ((g.flds c).zip ds).lookup f
  | _, _ => none
def natM (m : Md) (r : R D) : R D := if m < 2 then r else r.bind fun d S => match d with | .lst _ => .ok d S | _ => .stuck
def noX {α : Type} : R α → R α
  | .exc _ _ _ => .stuck
  | r => r
def onlyNew (m : Md) (r : R D) : R D := if m < 2 then r else .stuck
def eqiM (g : G) (n : Bool) (a b : D) (S : Sx) : R D := match a with
  | .ins k ds => (match b with
    | .ins k' es => if k = k' then (match g.eqf k with
      | some f => (noX (g.call0 f [.ins k ds, .ins k' es] S)).bind fun d S => (match d with | .bl x => .ok (.bl (if n then !x else x)) S | _ => .stuck)
      | none => .stuck) else .stuck
    | _ => .stuck)
  | _ => .stuck

def onD {α : Type} (ρ : Rho) (i : Nat) (f : List (List Int × D) → R α) : R α := match dictAt ρ i with
  | some kvs => f kvs
  | none => .stuck
def onK {α : Type} (y : D) (f : List Int → R α) : R α := match keyOf y with
  | some k => f k
  | none => .stuck
/-- one key by the def k -/
def keyF (g : G) (k : Nat) : D → Sx → R (Option D) := fun d S => (g.call0 k [d] S).bind fun x S => .ok (some x) S
def sortBy (ds ks : List D) : List D := ((ds.zip ks).mergeSort (PySem.W.dataLe false fun p => p.2.py)).map (·.1)
def sortkM (g : G) (k : Nat) (x : D) (S : Sx) : R D := match x with
    | .lst ds => (noX (lcGo (keyF g k) ds S)).bind fun ks S' => if sortOk (D.pys ks) then .ok (.lst (sortBy ds ks)) S' else .stuck
    | _ => .stuck
mutual
def E.den (g : G) : E → Md → Rho → Sx → R D
  | .no, _, _, S => .ok (.bl true) S
  | .var i, m, ρ, S => match ρ[i]? with
    | some (.v d) => onlyNew m (.ok d S)
    | some (.b ds) => if m = 1 then .ok (.lst ds) S else .stuck
    | _ => .stuck
  | .int i, m, _, S => onlyNew m (.ok (.int i) S)
  | .bl b, m, _, S => onlyNew m (.ok (.bl b) S)
  | .non, m, _, S => onlyNew m (.ok .non S)
  | .str s, m, _, S => onlyNew m (.ok (.str s) S)
  | .gfn k, m, _, S => onlyNew m (.ok (.fn k) S)
  | .gint k, m, _, S => onlyNew m (.ok (.int (g.gint k)) S)
  | .tup es, m, ρ, S => onlyNew m ((es.den g 0 ρ S).bind fun ds S => .ok (.tup ds) S)
  | .lst es, _, ρ, S => (es.den g 0 ρ S).bind fun ds S => .ok (.lst ds) S
  | .bin op a b, m, ρ, S => natM m ((a.den g 1 ρ S).bind fun x S => (b.den g 1 ρ S).bind fun y S => R.of S (binD op x y))
  | .neg a, m, ρ, S => onlyNew m ((a.den g 0 ρ S).bind fun x S => match x with | .int i => .ok (.int (-i)) S | _ => .stuck)
  | .cmp c a b, m, ρ, S => onlyNew m ((a.den g 1 ρ S).bind fun x S => (b.den g 1 ρ S).bind fun y S => R.of S (cmpD c x y))
  | .eqi n a b, m, ρ, S => onlyNew m ((a.den g 0 ρ S).bind fun x S => (b.den g 0 ρ S).bind fun y S => eqiM g n x y S)
  | .chain c1 c2 a b d, m, ρ, S => onlyNew m ((a.den g 0 ρ S).bind fun x S => (b.den g 0 ρ S).bind fun y S => (R.of S (cmpD c1 x y)).bind fun t S => match t with
    | .bl true => (d.den g 0 ρ S).bind fun z S => R.of S (cmpD c2 y z)
    | .bl false => .ok (.bl false) S
    | _ => .stuck)
  | .isN n a, m, ρ, S => onlyNew m ((a.den g 0 ρ S).bind fun x S => .ok (.bl (match x with | .non => !n | _ => n)) S)
  | .and a b, m, ρ, S => onlyNew m ((truth (a.den g 0 ρ S)).bind fun x S => if x then b.den g 0 ρ S else .ok (.bl false) S)
  | .or a b, m, ρ, S => onlyNew m ((truth (a.den g 0 ρ S)).bind fun x S => if x then .ok (.bl true) S else b.den g 0 ρ S)
  | .not a, m, ρ, S => onlyNew m ((truth (a.den g 0 ρ S)).bind fun x S => .ok (.bl (!x)) S)
  | .ite c a b, m, ρ, S => (truth (c.den g 0 ρ S)).bind fun x S => if x then a.den g m ρ S else b.den g m ρ S
  | .call k es, m, ρ, S => onlyNew (if g.fr k then 0 else m) ((es.den g 0 ρ S).bind fun ds S => g.call k ds S)
  | .callv i es, m, ρ, S => onlyNew m (match ρ[i]? with
    | some (.v (.fn k)) => (es.den g 0 ρ S).bind fun ds S => g.call0 k ds S
    | _ => .stuck)
  | .make c es, m, ρ, S => onlyNew m ((es.den g 0 ρ S).bind fun ds S => g.make c ds S)
  | .makeD c es i, m, ρ, S => onlyNew m ((es.den g 0 ρ S).bind fun ds S => g.make c (ds ++ [.int i]) S)
  | .meth k o es, m, ρ, S => onlyNew m ((o.den g 0 ρ S).bind fun x S => (es.den g 0 ρ S).bind fun ds S => g.call0 k (x :: ds) S)
  | .blt f es, m, ρ, S => natM m ((es.den g 1 ρ S).bind fun ds S => R.of S (bltD f ds))
  | .isin a _ ts, m, ρ, S => onlyNew m ((a.den g 0 ρ S).bind fun x S => R.of S ((isTys x ts).map .bl))
  | .fld a f, m, ρ, S => onlyNew m ((a.den g 0 ρ S).bind fun x S => R.of S (fldD g x f))
  | .idx a b, m, ρ, S => onlyNew m ((a.den g 1 ρ S).bind fun x S => (b.den g 0 ρ S).bind fun y S => idxS x y S)
  | .slc a lo hi, m, ρ, S => natM m ((a.den g 1 ρ S).bind fun x S => ((match lo with | .no => .ok none S | _ => partR (lo.den g 0 ρ S)) : R (Option Int)).bind fun l S => ((match hi with | .no => .ok none S | _ => partR (hi.den g 0 ρ S)) : R (Option Int)).bind fun h S => R.of S (slcD x l h))
  | .lc elt tg src cond own, _, ρ, S => (src.den g 1 ρ S).bind fun ds S => (lcGo (fun d S => match tg.bind d (wipe ρ own) with
      | some ρ' => noX (condM (truth (cond.den g 0 ρ' S)) (fun S => elt.den g 0 ρ' S))
      | none => .stuck) ds S).bind fun r S => .ok (.lst r) S
  | .lc2 elt tg src cond tg2 src2 cond2 own own2, _, ρ, S => (src.den g 1 ρ S).bind fun ds S => (lc2Go (fun d S => match tg.bind d (wipe ρ own) with
      | some ρ' => (truth (cond.den g 0 ρ' S)).bind fun b S => if b then (src2.den g 1 ρ' S).bind fun es S => lcGo (fun e S => match tg2.bind e (wipe ρ' own2) with
          | some ρ2 => condM (truth (cond2.den g 0 ρ2 S)) (fun S => elt.den g 0 ρ2 S)
          | none => .stuck) es S
        else .ok [] S
      | none => .stuck) ds S).bind fun r S => if r.length ≤ sizeLine then .ok (.lst r) S else .stuck
  | .tupS s, m, ρ, S => onlyNew m ((s.den g 1 ρ S).bind fun ds S => .ok (.tup ds) S)
  | .lstS s, _, ρ, S => (s.den g 1 ρ S).bind fun ds S => .ok (.lst ds) S
  | .sset e, _, ρ, S => (e.den g 1 ρ S).bind fun x S => R.of S (ssetD x)
  | .sortk e k, _, ρ, S => (e.den g 1 ρ S).bind fun x S => sortkM g k x S
  | .dix i k, m, ρ, S => onlyNew m (onD ρ i fun kvs => (k.den g 0 ρ S).bind fun y S => onK y fun k => R.of S (dlook kvs k))
  | .dgd i k d, m, ρ, S => onlyNew m (onD ρ i fun kvs => (k.den g 0 ρ S).bind fun y S => (d.den g 0 ρ S).bind fun z S => onK y fun k => .ok ((dlook kvs k).getD z) S)
  | .din n k i, m, ρ, S => onlyNew m (onD ρ i fun kvs => (k.den g 0 ρ S).bind fun y S => onK y fun k => .ok (.bl (if n then !(dlook kvs k).isSome else (dlook kvs k).isSome)) S)
  | .dlen i, m, ρ, S => onlyNew m (match ρ[i]? with
    | some (.dd kvs) => .ok (.int kvs.length) S
    | _ => .stuck)
  | .dls i, _, ρ, S => match dictAt ρ i with
    | some kvs => .ok (.lst (kvs.map fun kv => keyD kv.1)) S
    | none => .stuck
  | .sortkd i k, _, ρ, S => match dictAt ρ i with
    | some kvs => sortkM g k (.lst (kvs.map fun kv => keyD kv.1)) S
    | none => .stuck
def Es.den (g : G) : Es → Md → Rho → Sx → R (List D)
  | .nil, _, _, S => .ok [] S
  | .cons e es, m, ρ, S => (e.den g m ρ S).bind fun d S => (es.den g m ρ S).bind fun ds S => .ok (d :: ds) S
def Src.den (g : G) : Src → Md → Rho → Sx → R (List D)
  | .ex e, m, ρ, S => (e.den g m ρ S).bind fun x S => R.of S (itemsD x)
  | .rng1 a, _, ρ, S => (a.den g 0 ρ S).bind fun x S => match x with
    | .int i => if small i && decide (i.toNat ≤ sizeLine) then .ok (rngD 0 i.toNat) S else .stuck
    | _ => .stuck
  | .rng2 a b, _, ρ, S => (a.den g 0 ρ S).bind fun x S => (b.den g 0 ρ S).bind fun y S => match x, y with
    | .int i, .int j => if small i && small j && decide ((j - i).toNat ≤ sizeLine) then .ok (rngD i (j - i).toNat) S else .stuck
    | _, _ => .stuck
  | .rng3 a b c, _, ρ, S => .stuck
  | .enum e, m, ρ, S => (e.den g m ρ S).bind fun x S => (R.of S (itemsD x)).bind fun ds S => .ok (enumD ds) S
  | .zip a b, m, ρ, S => (a.den g m ρ S).bind fun x S => (b.den g m ρ S).bind fun y S => match x, y with
    | .tup a, .tup b => .ok (zipD a b) S
    | .lst a, .lst b => .ok (zipD a b) S
    | _, _ => .stuck
  | .dk i, _, ρ, S => match ρ[i]? with
    | some (.v (.dic ks ds)) => .ok (ks.map keyD) S
    | _ => .stuck
end

inductive RS where
  | next (ρ : Rho) (S : Sx) | ret (fr : Bool) (d : D) (S : Sx) | exc (c : Nat) (p : Option D) (S : Sx) | stuck
def R.toS {α : Type} (r : R α) (f : α → Sx → RS) : RS := match r with
  | .ok a S => f a S
  | .exc c p S => .exc c p S
  | .stuck => .stuck
def RS.next? (r : RS) (f : Rho → Sx → RS) : RS := match r with
  | .next ρ S => f ρ S
  | r => r
def RS.opt (S : Sx) : Option Rho → RS
  | some ρ => .next ρ S
  | none => .stuck
def forGo (f : D → Rho → Sx → RS) : List D → Rho → Sx → RS
  | [], ρ, S => .next ρ S
  | d :: ds, ρ, S => (f d ρ S).next? fun ρ S => forGo f ds ρ S
def whileGo (c : Rho → Sx → R Bool) (f : Rho → Sx → RS) : Nat → Rho → Sx → RS
  | 0, _, _ => .stuck
  | n + 1, ρ, S => (c ρ S).toS fun b S => if b then (f ρ S).next? fun ρ S => whileGo c f n ρ S else .next ρ S
def notO : Sl → Bool
  | .o _ _ => false
  | _ => true
def boxAt (ρ : Rho) (i : Nat) (f : List D → RS) : RS := match ρ[i]? with
  | some (.b ds) => f ds
  | _ => .stuck
/-- try: .. except c1: return (s1, None) except c2 as e: return (s2, e.f) -/
def toldD (c1 : Nat) (s1 : Str) (c2 : Nat) (s2 : Str) : RS → RS
  | .exc c p S => if c = c1 then .ret false (.tup [.str s1, .non]) S else if c = c2 then (match p with
    | some d => .ret false (.tup [.str s2, d]) S
    | none => .stuck) else .stuck
  | r => r
mutual
def S.den (g : G) : S → Rho → Sx → RS
  | .asg t e, ρ, S => (e.den g 0 ρ S).toS fun d S => RS.opt S (t.bind d ρ)
  | .asgb i e, ρ, S => (e.den g 2 ρ S).toS fun d S => match d with
    | .lst ds => .next (ρ.set i (.b ds)) S
    | _ => .stuck
  | .par is es, ρ, S => (es.den g 0 ρ S).toS fun ds S => RS.opt S (bindAll is.reverse ds.reverse ρ)
  | .mv i j, ρ, S => .stuck
  | .app i e, ρ, S => boxAt ρ i fun ds => (e.den g 0 ρ S).toS fun d S => if ds.length < sizeLine then .next (ρ.set i (.b (ds ++ [d]))) S else .stuck
  | .ext i e, ρ, S => boxAt ρ i fun ds => (e.den g 2 ρ S).toS fun d S => match d with
    | .lst es => if ds.length + es.length ≤ sizeLine then .next (ρ.set i (.b (ds ++ es))) S else .stuck
    | _ => .stuck
  | .pop t i, ρ, S => boxAt ρ i fun ds => match ds.getLast? with
    | some d => RS.opt S (t.bind d (ρ.set i (.b ds.dropLast)))
    | none => .stuck
  | .setix i k e, ρ, S => (e.den g 0 ρ S).toS fun d S => boxAt ρ i fun ds => (k.den g 0 ρ S).toS fun y S => match y with
    | .int z => (match L2.ixN ds.length z with
      | some j => .next (ρ.set i (.b (ds.set j d))) S
      | none => .stuck)
    | _ => .stuck
  | .setst i k e, ρ, S => (e.den g 0 ρ S).toS fun d S => match ρ[i]? with
    | some (.v .st) => (k.den g 0 ρ S).toS fun y S => (match y, S with
      | .int z, some ds => (match L2.ixN ds.length z with
        | some j => .next ρ (some (ds.set j d))
        | none => .stuck)
      | _, _ => .stuck)
    | _ => .stuck
  | .setf i f e, ρ, S => (e.den g 0 ρ S).toS fun d S => match ρ[i]? with
    | some (.o c fs) => if decide (f ∈ g.flds c) && !decide (f ∈ fs.map (·.1)) && decide (fs.length < 100) && decide (i = 0) && (ρ.drop 1).all notO then .next (ρ.set i (.o c (fs ++ [(f, d)]))) S else .stuck
    | _ => .stuck
  | .expr e, ρ, S => (e.den g 0 ρ S).toS fun _ S => .next ρ S
  | .ret e, ρ, S => (e.den g 0 ρ S).toS fun d S => .ret false d S
  | .retb i, ρ, S => boxAt ρ i fun ds => .ret true (.lst ds) S
  | .retf e, ρ, S => (e.den g 2 ρ S).toS fun d S => .ret true d S
  | .raise c x, _, S => .exc c (some (.str x)) S
  | .ite c a b, ρ, S => (truth (c.den g 0 ρ S)).toS fun x S => if x then a.den g ρ S else b.den g ρ S
  | .for_ t s body kill, ρ, S => (s.den g 0 ρ S).toS fun ds S => (forGo (fun d ρ S => match t.bind d ρ with
      | some ρ' => body.den g ρ' S
      | none => .stuck) ds ρ S).next? fun ρ S => .next (wipe ρ kill) S
  | .while_ c body kill, ρ, S => (whileGo (fun ρ S => truth (c.den g 0 ρ S)) (fun ρ S => body.den g ρ S) g.wf ρ S).next? fun ρ S => .next (wipe ρ kill) S
  | .told body c1 s1 c2 _ _ s2, ρ, S => toldD c1 s1 c2 s2 (body.den g ρ S)
  | .asgd i, ρ, S => .next (ρ.set i (.dd [])) S
  | .asgd1 i k e, ρ, S => (k.den g 0 ρ S).toS fun y S => (e.den g 0 ρ S).toS fun d S => match keyOf y with
    | some k => .next (ρ.set i (.dd [(k, d)])) S
    | none => .stuck
  | .putd i k e, ρ, S => (e.den g 0 ρ S).toS fun d S => match ρ[i]? with
    | some (.dd kvs) => (k.den g 0 ρ S).toS fun y S => (match keyOf y with
      | some k => if kvs.length < sizeLine then .next (ρ.set i (.dd (dput kvs k d))) S else .stuck
      | none => .stuck)
    | _ => .stuck
  | .frzd i, ρ, S => match ρ[i]? with
    | some (.dd kvs) => .next (ρ.set i (.v (.dic (kvs.map (·.1)) (kvs.map (·.2))))) S
    | _ => .stuck
  | .frz i, ρ, S => boxAt ρ i fun ds => .next (ρ.set i (.v (.lst ds))) S
  | .pass, ρ, S => .next ρ S
def Ss.den (g : G) : Ss → Rho → Sx → RS
  | .nil, ρ, S => .next ρ S
  | .cons s ss, ρ, S => (s.den g ρ S).next? fun ρ S => ss.den g ρ S
end

structure Fn where
  np : Nat
  ns : Nat
  body : Ss
  df : Option Int := none
structure Tab where
  fr : Nat → Bool
  fns : Nat → Option Fn
  flds : Nat → List Str
  ini : Nat → Nat
  gint : Nat → Int
  eqf : Nat → Option Nat
def startD (ns : Nat) (ds : List D) : Rho := ds.map .v ++ List.replicate (ns - ds.length) .un
def endFn (fr : Bool) : RS → R D
  | .next _ S => if fr then .stuck else .ok .non S
  | .ret f d S => if f = fr then .ok d S else .stuck
  | .exc c p S => .exc c p S
  | .stuck => .stuck
def endIni (k : Nat) (fl : List Str) : RS → R D
  | .next ρ S => (match (ρ[0]? : Option Sl) with
    | some (Sl.o c fs) => if c = k ∧ fs.map (·.1) = fl then .ok (.ins c (fs.map (·.2))) S else .stuck
    | _ => .stuck)
  | .exc c p S => .exc c p S
  | _ => .stuck
@[irreducible] def WF : Nat := 100000000
def run (T : Tab) : Nat → Bool → Nat → List D → Sx → R D
  | 0, _, _, _, _ => .stuck
  | n + 1, mk, k, ds, S =>
    let g : G := ⟨T.fr, run T n false, run T n true, T.flds, T.gint, T.eqf, WF⟩
    if mk then (match T.fns (T.ini k) with
      | some f => if ds.length + 1 = f.np then endIni k (T.flds k) (f.body.den g (.o k [] :: startD (f.ns - 1) ds) S) else .stuck
      | none => .stuck)
    else (match T.fns k with
      | some f => if ds.length = f.np then endFn (T.fr k) (f.body.den g (startD f.ns ds) S) else .stuck
      | none => .stuck)
abbrev gAt (T : Tab) (n : Nat) : G := ⟨T.fr, run T n false, run T n true, T.flds, T.gint, T.eqf, WF⟩
end Pu

/-! ======== Pu2 ======== -/
/-! How plain data lie in the abstract heap; readings by what is computed. -/
namespace Pu
open PySem PySem.Spec PyProof.Rows L2

/-- what stands of the text: the functions' and the classes' places, the classes' fields, which class of errors bears a datum -/
structure Wd where
  K : PySem.W.Frag
  fa : Nat → Addr
  ca : Nat → Addr
  fl : Nat → List Str
  pay : Nat → Option Str
  nc : Nat
  cinj : ∀ c c', ca c = ca c' → fl c = fl c'
  me : Addr := 0
/-- .. where the instance in the making lies -/
abbrev Wd.at (w : Wd) (a : Addr) : Wd := { w with me := a }

/-- the law's script: a list that nobody writes -/
def SqS (K : PySem.W.Frag) (H : Hp) (a : Addr) (xs : List V) : Prop := (∃ o, H a = some (.frz o (.lst xs))) ∨
    ∃ (o : Obj) (its : Array Value) (n : Nat), K.lookup a = some o ∧ o.cls = .type "list" ∧ o.dict = none ∧ o.data = .seq its n ∧ its.size ≤ sizeLine ∧ Vals xs its.toList
theorem SqS.sql {K : PySem.W.Frag} {H : Hp} {a : Addr} {xs : List V} (h : SqS K H a xs) : SqL K H a xs := by
  rcases h with h | h
  · exact .inl (.inr h)
  · exact .inr h
mutual
inductive Rep (w : Wd) (ps : Option Addr) (H : Hp) : V → D → Prop
  | non : Rep w ps H .non .non
  | bl (b : Bool) : Rep w ps H (.bl b) (.bl b)
  | int (i : Int) : Rep w ps H (.int i) (.int i)
  | str (x : Str) : Rep w ps H (.str x) (.str x)
  | tup {a : Addr} {xs : List V} {ds : List D} : H a = some (.tup xs) → RepAll w ps H xs ds → Rep w ps H (.ref a) (.tup ds)
  | lst {a : Addr} {o : Obj} {xs : List V} {ds : List D} : H a = some (.frz o (.lst xs)) → RepAll w ps H xs ds → Rep w ps H (.ref a) (.lst ds)
  | fn (k : Nat) : Rep w ps H (.ref (w.fa k)) (.fn k)
  | ins {a dx : Addr} {c : Nat} {fs : List (Str × V)} {ds : List D} : c < w.nc → H a = some (.ins (w.ca c) dx fs) → fs.map (·.1) = w.fl c → RepAll w ps H (fs.map (·.2)) ds → Rep w ps H (.ref a) (.ins c ds)
  | st {a : Addr} : ps = some a → Rep w ps H (.ref a) .st
  | dic {a : Addr} {o : Obj} {ws : List (List Key × V)} {ks : List (List Int)} {ds : List D} : H a = some (.frz o (.dT ws)) → ws.map (·.1) = ks.map (·.map Sum.inl) → RepAll w ps H (ws.map (·.2)) ds → Rep w ps H (.ref a) (.dic ks ds)
  | scr {a : Addr} {xs : List V} {ds : List D} : SqS w.K H a xs → RepAll w ps H xs ds → Rep w ps H (.ref a) (.scr ds)
inductive RepAll (w : Wd) (ps : Option Addr) (H : Hp) : List V → List D → Prop
  | nil : RepAll w ps H [] []
  | cons {v : V} {vs : List V} {d : D} {ds : List D} : Rep w ps H v d → RepAll w ps H vs ds → RepAll w ps H (v :: vs) (d :: ds)
end

/-- what data lean on -/
def Lean (w : Wd) : HO → Prop
  | .tup _ => True
  | .frz _ _ => True
  | .ins C _ fs => ∃ c, C = w.ca c ∧ fs.map (·.1) = w.fl c
  | _ => False
def Kd (w : Wd) (H H' : Hp) : Prop := ∀ b o, H b = some o → Lean w o → H' b = some o
/-- all that was tracked stands, but the list that is handed about -/
def Keep (ps : Option Addr) (H H' : Hp) : Prop := ∀ b o, H b = some o → H' b = some o ∨ (ps = some b ∧ ∃ xs, o = .lst xs)

section
variable {w : Wd} {ps : Option Addr} {H H' H'' : Hp}
theorem Kd.refl : Kd w H H := fun _ _ h _ => h
theorem Keep.refl : Keep ps H H := fun _ _ h => .inl h
theorem Keep.trans (a : Keep ps H H') (b : Keep ps H' H'') : Keep ps H H'' := fun c o h => by
  rcases a c o h with h | h
  · exact b c o h
  · exact .inr h
theorem Keep.kd (a : Keep ps H H') : Kd w H H' := fun b o h l => by
  rcases a b o h with h | ⟨_, xs, rfl⟩
  · exact h
  · exact l.elim
theorem Keep.same (h : Same H H') : Keep ps H H' := fun b o e => .inl (h b o e)
theorem Keep.upd {p : Addr} {o : HO} (h : H p = none) : Keep ps H (upd H p o) := fun b u e => .inl (by rw [upd_ne (ne_of_none e h)]; exact e)
theorem Keep.to (a : Keep ps H H') {b : Addr} {o : HO} (h : H b = some o) (n : ps ≠ some b) : H' b = some o := by
  rcases a b o h with h | ⟨e, _⟩
  · exact h
  · exact absurd e n
theorem Keep.seqT (k : Kd w H H') {a : Addr} {xs : List V} (h : SqT w.K H a xs) : SqT w.K H' a xs := by
  rcases h with (h | ⟨o, h⟩) | h
  · exact .inl (.inl (k _ _ h trivial))
  · exact .inl (.inr ⟨o, k _ _ h trivial⟩)
  · exact .inr h
theorem Keep.seqS (k : Kd w H H') {a : Addr} {xs : List V} (h : SqS w.K H a xs) : SqS w.K H' a xs := by
  rcases h with ⟨o, h⟩ | h
  · exact .inl ⟨o, k _ _ h trivial⟩
  · exact .inr h
mutual
theorem Rep.mono (k : Kd w H H') : ∀ {d : D} {v : V}, Rep w ps H v d → Rep w ps H' v d
  | .non, _, h => by cases h; exact .non
  | .bl _, _, h => by cases h; exact .bl _
  | .int _, _, h => by cases h; exact .int _
  | .str _, _, h => by cases h; exact .str _
  | .tup ds, _, h => by
    cases h with
    | tup h1 h2 => exact .tup (k _ _ h1 trivial) (RepAll.mono k h2)
  | .lst ds, _, h => by
    cases h with
    | lst h1 h2 => exact .lst (k _ _ h1 trivial) (RepAll.mono k h2)
  | .fn _, _, h => by cases h; exact .fn _
  | .ins c ds, _, h => by
    cases h with
    | ins h0 h1 h2 h3 => exact .ins h0 (k _ _ h1 ⟨c, rfl, h2⟩) h2 (RepAll.mono k h3)
  | .st, _, h => by
    cases h with
    | st e => exact .st e
  | .scr ds, _, h => by
    cases h with
    | scr h1 h2 => exact .scr (Keep.seqS k h1) (RepAll.mono k h2)
  | .dic ks ds, _, h => by
    cases h with
    | dic h1 h2 h3 => exact .dic (k _ _ h1 trivial) h2 (RepAll.mono k h3)
theorem RepAll.mono (k : Kd w H H') : ∀ {ds : List D} {vs : List V}, RepAll w ps H vs ds → RepAll w ps H' vs ds
  | [], _, h => by cases h; exact .nil
  | d :: ds, _, h => by
    cases h with
    | cons h1 h2 => exact .cons (Rep.mono k h1) (RepAll.mono k h2)
end
theorem RepAll.length : ∀ {vs : List V} {ds : List D}, RepAll w ps H vs ds → vs.length = ds.length
  | _, _, .nil => rfl
  | _, _, .cons _ h => by rw [List.length_cons, List.length_cons, h.length]
theorem RepAll.get : ∀ {vs : List V} {ds : List D} {i : Nat} {d : D}, RepAll w ps H vs ds → ds[i]? = some d → ∃ v, vs[i]? = some v ∧ Rep w ps H v d
  | _, _, _, _, .nil, e => by simp at e
  | _, _, 0, d, .cons h _, e => by
    simp at e
    subst e
    exact ⟨_, rfl, h⟩
  | _, _, i + 1, d, .cons _ h, e => by
    obtain ⟨v, h1, h2⟩ := h.get (i := i) (d := d) (by simpa using e)
    exact ⟨v, by simpa using h1, h2⟩
theorem RepAll.getV : ∀ {vs : List V} {ds : List D} {i : Nat} {v : V}, RepAll w ps H vs ds → vs[i]? = some v → ∃ d, ds[i]? = some d ∧ Rep w ps H v d
  | _, _, _, _, .nil, e => by simp at e
  | _, _, 0, v, .cons h _, e => by
    simp at e
    subst e
    exact ⟨_, rfl, h⟩
  | _, _, i + 1, v, .cons _ h, e => by
    obtain ⟨d, h1, h2⟩ := h.getV (i := i) (v := v) (by simpa using e)
    exact ⟨d, by simpa using h1, h2⟩
theorem RepAll.append : ∀ {vs us : List V} {ds es : List D}, RepAll w ps H vs ds → RepAll w ps H us es → RepAll w ps H (vs ++ us) (ds ++ es)
  | _, _, _, _, .nil, h => h
  | _, _, _, _, .cons a b, h => .cons a (b.append h)
theorem RepAll.set : ∀ {vs : List V} {ds : List D} {v : V} {d : D} (i : Nat), Rep w ps H v d → RepAll w ps H vs ds → RepAll w ps H (vs.set i v) (ds.set i d)
  | _, _, _, _, _, _, .nil => .nil
  | _, _, _, _, 0, r, .cons _ t => .cons r t
  | _, _, _, _, i + 1, r, .cons a t => .cons a (t.set i r)
theorem RepAll.take : ∀ {vs : List V} {ds : List D} (n : Nat), RepAll w ps H vs ds → RepAll w ps H (vs.take n) (ds.take n)
  | _, _, 0, _ => by simp; exact .nil
  | _, _, _ + 1, .nil => by simp; exact .nil
  | _, _, n + 1, .cons a t => by simp; exact .cons a (t.take n)
theorem RepAll.drop : ∀ {vs : List V} {ds : List D} (n : Nat), RepAll w ps H vs ds → RepAll w ps H (vs.drop n) (ds.drop n)
  | _, _, 0, h => by simpa using h
  | _, _, _ + 1, .nil => by simp; exact .nil
  | _, _, n + 1, .cons a t => by simp; exact t.drop n

mutual
/-- data without functions and objects are read as the library's data -/
theorem Rep.dp : ∀ {d : D} {v : V}, Rep w ps H v d → d.py.canLay0 = true → Dp w.K H v d.py
  | .non, _, h, _ => by cases h; exact .non
  | .bl _, _, h, _ => by cases h; exact .bl _
  | .int _, _, h, _ => by cases h; exact .int _
  | .str _, _, h, _ => by cases h; exact .str _
  | .tup ds, _, h, e => by
    cases h with
    | tup h1 h2 => exact .tup (.inl (.inl h1)) (RepAll.dp h2 e)
  | .lst ds, _, h, e => by
    cases h with
    | lst h1 h2 => exact .lst (.inl (.inr ⟨_, h1⟩)) (RepAll.dp h2 e)
  | .fn _, _, _, e => Bool.noConfusion e
  | .ins _ _, _, _, e => Bool.noConfusion e
  | .st, _, _, e => Bool.noConfusion e
  | .scr _, _, _, e => Bool.noConfusion e
  | .dic _ _, _, _, e => Bool.noConfusion e
theorem RepAll.dp : ∀ {ds : List D} {vs : List V}, RepAll w ps H vs ds → PyData.canLayAll0 (D.pys ds) = true → DpAll w.K H vs (D.pys ds)
  | [], _, h, _ => by cases h; exact .nil
  | d :: ds, _, h, e => by
    cases h with
    | cons h1 h2 =>
      have e' : (d.py.canLay0 && PyData.canLayAll0 (D.pys ds)) = true := e
      rw [Bool.and_eq_true] at e'
      exact .cons (h1.dp e'.1) (h2.dp e'.2)
end
end

/-- the list that is handed about -/
def StOk (w : Wd) (ps : Option Addr) (S : Sx) (H : Hp) : Prop := match ps, S with
  | none, none => True
  | some p, some ds => ∃ vs, H p = some (.lst vs) ∧ RepAll w ps H vs ds
  | _, _ => False
/-- a value by its way of reading; H0: the heap ahead -/
def RepM (w : Wd) (ps : Option Addr) (m : Md) (H0 H : Hp) (v : V) (d : D) : Prop := match m with
  | 0 => Rep w ps H v d
  | 1 => Rep w ps H v d ∨ ∃ p vs ds, d = .lst ds ∧ v = .ref p ∧ ps ≠ some p ∧ H p = some (.lst vs) ∧ RepAll w ps H vs ds
  | 2 => ∃ p vs ds, d = .lst ds ∧ v = .ref p ∧ ps ≠ some p ∧ H0 p = none ∧ H p = some (.lst vs) ∧ RepAll w ps H vs ds
  | _ => ((∀ ds, d ≠ .lst ds) ∧ Rep w ps H v d) ∨ ∃ p vs ds, d = .lst ds ∧ v = .ref p ∧ ps ≠ some p ∧ H0 p = none ∧ H p = some (.lst vs) ∧ RepAll w ps H vs ds
/-- an error's datum -/
def ExcOk (w : Wd) (ps : Option Addr) (c : Nat) (p : Option D) (dx : Option Addr) (H : Hp) : Prop := match w.pay c with
  | none => True
  | some f => ∃ dd v d, dx = some dd ∧ p = some d ∧ H dd = some (.xd [(f, v)]) ∧ Rep w ps H v d
def Pst {α : Type} (w : Wd) (ps : Option Addr) (E : XK) (r : R α) (H : Hp) (F : α → Sx → Hp → Prop) : Prop := match r with
  | .ok a S => F a S H
  | .exc c p S => ∀ dx H', Keep ps H H' → StOk w ps S H' → ExcOk w ps c p dx H' → E (.ref (w.ca c)) dx H'
  | .stuck => False
def Ret (w : Wd) (ps : Option Addr) (m : Md) (Q : VK) (d : D) (S : Sx) (H : Hp) : Prop := ∀ v H', Keep ps H H' → StOk w ps S H' → RepM w ps m H H' v d → Q v H'
/-- a dict's content -/
def DRep (w : Wd) (ps : Option Addr) (H : Hp) : List (List Key × V) → List (List Int × D) → Prop := Paired fun a b => a.1 = b.1.map Sum.inl ∧ Rep w ps H a.2 b.2
/-- a slot -/
def SlOk (w : Wd) (ps : Option Addr) (H0 H : Hp) (s : Option (Option V)) : Sl → Prop
  | .un => True
  | .v d => ∃ v, s = some (some v) ∧ Rep w ps H v d
  | .b ds => ∃ p vs, s = some (some (.ref p)) ∧ H p = some (.lst vs) ∧ RepAll w ps H vs ds ∧ H0 p = none ∧ ps ≠ some p
  | .dd kvs => ∃ p ws, s = some (some (.ref p)) ∧ H p = some (.dT ws) ∧ DRep w ps H ws kvs ∧ H0 p = none
  | .o c fs => c < w.nc ∧ ∃ p dx vfs, s = some (some (.ref p)) ∧ H p = some (.ins (w.ca c) dx vfs) ∧ vfs.map (·.1) = fs.map (·.1) ∧ RepAll w ps H (vfs.map (·.2)) (fs.map (·.2)) ∧ H0 p = none ∧ vfs.length ≤ 100 ∧ p = w.me
def Sl.own : Sl → Bool
  | .b _ => true
  | .dd _ => true
  | _ => false
structure EnvOk (w : Wd) (ps : Option Addr) (H0 : Hp) (ρ : Rho) (σ : L2.St) (H : Hp) : Prop where
  keep : Keep ps H0 H
  len : σ.length = ρ.length
  slot : ∀ (i : Nat) (s : Sl), ρ[i]? = some s → SlOk w ps H0 H σ[i]? s
  own : ∀ (i j : Nat) (p : Addr) (s t : Sl), ρ[i]? = some s → ρ[j]? = some t → s.own = true → t.own = true → σ[i]? = some (some (.ref p)) → σ[j]? = some (some (.ref p)) → i = j
def tE (w : Wd) (E : XK) (m : Md) (de : Rho → Sx → R D) : TE := fun σ H Q => ∃ ps H0 ρ S, EnvOk w ps H0 ρ σ H ∧ StOk w ps S H ∧ Pst w ps E (de ρ S) H (Ret w ps m Q)

section
variable {w : Wd} {ps : Option Addr} {H0 H H' : Hp} {ρ : Rho} {σ : L2.St} {S : Sx}
theorem DRep.mono (k : Kd w H H') {ws : List (List Key × V)} {kvs : List (List Int × D)} (h : DRep w ps H ws kvs) : DRep w ps H' ws kvs := by
  unfold DRep at h ⊢
  induction h with
  | nil => exact .nil
  | cons r t ih => exact .cons ⟨r.1, r.2.mono k⟩ ih
theorem SlOk.mono {s : Option (Option V)} {x : Sl} (k : Keep ps H H') (h : SlOk w ps H0 H s x) : SlOk w ps H0 H' s x := by
  cases x with
  | un => trivial
  | v d => obtain ⟨v, e, r⟩ := h; exact ⟨v, e, r.mono k.kd⟩
  | b ds => obtain ⟨p, vs, e, hp, r, n, z⟩ := h; exact ⟨p, vs, e, k.to hp z, r.mono k.kd, n, z⟩
  | dd kvs =>
    obtain ⟨p, ws, e, hp, r, n⟩ := h
    refine ⟨p, ws, e, ?_, r.mono k.kd, n⟩
    rcases k _ _ hp with h | ⟨_, xs, e⟩
    · exact h
    · cases e
  | o c fs =>
    obtain ⟨hc, p, dx, vfs, e, hp, r1, r2, n, z⟩ := h
    refine ⟨hc, p, dx, vfs, e, ?_, r1, r2.mono k.kd, n, z⟩
    rcases k _ _ hp with h | ⟨_, xs, e⟩
    · exact h
    · cases e
theorem EnvOk.mono (h : EnvOk w ps H0 ρ σ H) (k : Keep ps H H') : EnvOk w ps H0 ρ σ H' :=
  ⟨h.keep.trans k, h.len, fun i s e => (h.slot i s e).mono k, h.own⟩
theorem Keep.back (k : Keep ps H H') {p : Addr} (e4 : H' p = none) (e3 : ps ≠ some p) : H p = none := by
  cases e : H p with
  | none => rfl
  | some o =>
    rcases k _ _ e with q | ⟨q, _⟩
    · rw [q] at e4; cases e4
    · exact absurd q e3
theorem RepM.mono0 {m : Md} {v : V} {d : D} {H2 : Hp} (k : Keep ps H H') (r : RepM w ps m H' H2 v d) : RepM w ps m H H2 v d := by
  match m, r with
  | 0, r => exact r
  | 1, r => exact r
  | 2, ⟨p, vs, ds, e1, e2, e3, e4, e5, e6⟩ => exact ⟨p, vs, ds, e1, e2, e3, k.back e4 e3, e5, e6⟩
  | n + 3, .inl r => exact .inl r
  | n + 3, .inr ⟨p, vs, ds, e1, e2, e3, e4, e5, e6⟩ => exact .inr ⟨p, vs, ds, e1, e2, e3, k.back e4 e3, e5, e6⟩
/-- stands while more is laid -/
def Mon {α : Type} (ps : Option Addr) (F : α → Sx → Hp → Prop) : Prop := ∀ a S H H', Keep ps H H' → F a S H → F a S H'
theorem Ret.mon {m : Md} {Q : VK} : Mon ps (Ret w ps m Q) := fun d S H H' k h v H2 k2 st r => h v H2 (k.trans k2) st (r.mono0 k)
theorem Pst.mono {α : Type} {E : XK} {r : R α} {F : α → Sx → Hp → Prop} (mF : Mon ps F) (k : Keep ps H H') (h : Pst w ps E r H F) : Pst w ps E r H' F := by
  cases r with
  | ok a S => exact mF a S H H' k h
  | exc c p S => exact fun dx H2 k2 st x => h dx H2 (k.trans k2) st x
  | stuck => exact h
theorem Pst.imp {α : Type} {E : XK} {r : R α} {F F' : α → Sx → Hp → Prop} (h : Pst w ps E r H F) (i : ∀ a S, F a S H → F' a S H) : Pst w ps E r H F' := by
  cases r with
  | ok a S => exact i a S h
  | exc c p S => exact h
  | stuck => exact h
theorem Pst.bind {α β : Type} {E : XK} {r : R α} {f : α → Sx → R β} {F : β → Sx → Hp → Prop} : Pst w ps E (r.bind f) H F = Pst w ps E r H (fun a S H => Pst w ps E (f a S) H F) := by cases r <;> rfl
theorem Mon.pst {α β : Type} {E : XK} {f : α → Sx → R β} {F : β → Sx → Hp → Prop} (mF : Mon ps F) : Mon ps (fun a S H => Pst w ps E (f a S) H F) := fun _ _ _ _ k h => h.mono mF k
/-- one part, then the rest -/
theorem step {α : Type} {E : XK} {m : Md} {r : R D} {f : D → Sx → R α} {F : α → Sx → Hp → Prop} {K : VK} (mF : Mon ps F) (h : Pst w ps E (r.bind f) H F)
    (next : ∀ d S1 v H1, Keep ps H H1 → StOk w ps S1 H1 → RepM w ps m H H1 v d → Pst w ps E (f d S1) H1 F → K v H1) : Pst w ps E r H (Ret w ps m K) := by
  rw [Pst.bind] at h
  exact h.imp fun d S h v H' k st r => next d S v H' k st r (h.mono mF k)
theorem onlyNew_st {E : XK} {m : Md} {r : R D} {F : D → Sx → Hp → Prop} (h : Pst w ps E (onlyNew m r) H F) : m < 2 ∧ Pst w ps E r H F := by
  unfold onlyNew at h
  by_cases hm : m < 2
  · rw [if_pos hm] at h
    exact ⟨hm, h⟩
  · rw [if_neg hm] at h
    exact h.elim
theorem Rep.toM {m : Md} {v : V} {d : D} {H1 : Hp} (hm : m < 2) (r : Rep w ps H v d) : RepM w ps m H1 H v d := by
  match m, hm with
  | 0, _ => exact r
  | 1, _ => exact .inl r
theorem R.of_st {E : XK} {o : Option D} {F : D → Sx → Hp → Prop} (h : Pst w ps E (R.of S o) H F) : ∃ d, o = some d ∧ F d S H := by
  cases o with
  | none => exact h.elim
  | some d => exact ⟨d, rfl, h⟩
theorem truth_bind {α : Type} (r : R D) (f : Bool → Sx → R α) : (truth r).bind f = r.bind fun d S => match d with | .bl b => f b S | _ => .stuck := by
  cases r with
  | ok d S => cases d <;> rfl
  | exc c p S => rfl
  | stuck => rfl
theorem StOk.mono {S : Sx} (st : StOk w ps S H) (k : ∀ p vs, ps = some p → H p = some (.lst vs) → H' p = some (.lst vs)) (kd : Kd w H H') : StOk w ps S H' := by
  match ps, S, st with
  | none, none, _ => trivial
  | some p, some ds, ⟨vs, h, r⟩ => exact ⟨vs, k p vs rfl h, r.mono kd⟩
theorem StOk.upd {S : Sx} {p : Addr} {o : HO} (st : StOk w ps S H) (n : H p = none) : StOk w ps S (upd H p o) :=
  st.mono (fun q vs _ h => by rw [upd_ne (ne_of_none h n)]; exact h) (fun b u e _ => by rw [upd_ne (ne_of_none e n)]; exact e)
theorem StOk.ne {S : Sx} {p : Addr} (st : StOk w ps S H) (n : H p = none) : ps ≠ some p := fun e => by
  subst e
  match S, st with
  | some ds, ⟨vs, h, _⟩ => rw [n] at h; cases h
end
/-! ### the ways of reading -/
section
variable {w : Wd} {E : XK} {X : Cx} {e : Expr} {de : Rho → Sx → R D}
theorem peImp {t t' : TE} (h : PE X e t) (i : ∀ σ H Q, t' σ H Q → t σ H Q) : PE X e t' := ⟨fun pins s σ H Q I q => h.run pins s σ H Q I (i σ H Q q)⟩
theorem peM {m m' : Md} {de' : Rho → Sx → R D} (h : PE X e (tE w E m de)) (i : ∀ ps ρ S H Q, Pst w ps E (de' ρ S) H (Ret w ps m' Q) → Pst w ps E (de ρ S) H (Ret w ps m Q)) : PE X e (tE w E m' de') :=
  peImp h fun σ H Q ⟨ps, H0, ρ, S, env, st, q⟩ => ⟨ps, H0, ρ, S, env, st, i ps ρ S H Q q⟩
/-- what is new may be taken as a datum: it is locked for good -/
theorem peNat (h : PE X e (tE w E 3 de)) : ∀ m, m < 3 → PE X e (tE w E m fun ρ S => natM m (de ρ S))
  | 0, _ => ⟨fun pins s σ H Q I q => by
    obtain ⟨ps, H0, ρ, S, env, st, q⟩ := q
    refine thn (h.run pins s σ H (fun v H' => Q v H' ∨ ∃ p vs, v = .ref p ∧ H' p = some (.lst vs) ∧ ∀ od, Q v (upd H' p (.frz od (.lst vs)))) I ⟨ps, H0, ρ, S, env, st, Pst.imp q fun d S q v H' k st' r => ?_⟩) fun u s' ⟨v, H', I', r, q⟩ => ?_
    · rcases r with ⟨_, r⟩ | ⟨p, vs, ds, rfl, rfl, np, hn, hp, r⟩
      · exact .inl (q v H' k st' r)
      refine .inr ⟨p, vs, rfl, hp, fun od => ?_⟩
      have kd : Kd w H' (upd H' p (.frz od (.lst vs))) := fun b o e l => by
        rw [upd_ne (fun z => by subst z; rw [hp] at e; cases e; exact l)]
        exact e
      refine q _ _ (fun b o e => ?_) (st'.mono (fun q vs' e1 e2 => ?_) kd) (Rep.lst upd_same (r.mono kd))
      · rcases k b o e with z | z
        · exact .inl (by rw [upd_ne (ne_of_none e hn)]; exact z)
        · exact .inr z
      · rw [upd_ne (fun z => np (by rw [e1, z]))]
        exact e2
    · rcases q with q | ⟨p, vs, ev, hp, q⟩
      · exact ⟨v, H', I', r, q⟩
      · obtain ⟨od, I2⟩ := I'.lock hp trivial
        exact ⟨v, _, I2, r, q od⟩⟩
  | 1, _ => peM h fun ps ρ S H Q q => Pst.imp q fun d S q v H' k st' r => q v H' k st' (by
      rcases r with ⟨_, r⟩ | ⟨p, vs, ds, e1, e2, e3, _, e5, e6⟩
      · exact .inl r
      · exact .inr ⟨p, vs, ds, e1, e2, e3, e5, e6⟩)
  | 2, _ => peM h fun ps ρ S H Q q => by
      show Pst w ps E (de ρ S) H _
      have q' : Pst w ps E ((de ρ S).bind fun d S => match d with | .lst _ => .ok d S | _ => .stuck) H (Ret w ps 2 Q) := q
      rw [Pst.bind] at q'
      refine Pst.imp q' fun d S q v H' k st' r => ?_
      rcases r with ⟨n, r⟩ | r
      · cases d with
        | lst ds => exact absurd rfl (n ds)
        | _ => exact q.elim
      · obtain ⟨p, vs, ds, rfl, r⟩ := r
        exact q v H' k st' ⟨p, vs, ds, rfl, r⟩
/-- .. of what is always new -/
theorem peNew (h : PE X e (tE w E 2 de)) (m : Md) (hm : m < 3) : PE X e (tE w E m de) := by
  have h3 : PE X e (tE w E 3 de) := peM h fun ps ρ S H Q q => Pst.imp q fun d S q v H' k st' r => q v H' k st' (.inr r)
  have hn := peNat h3 m hm
  match m, hm with
  | 0, _ => exact hn
  | 1, _ => exact hn
  | 2, _ => exact h
/-- .. of what is never new -/
theorem peOld (h : PE X e (tE w E 0 de)) (m : Md) : PE X e (tE w E m fun ρ S => onlyNew m (de ρ S)) := peM h fun ps ρ S H Q q => by
  obtain ⟨hm, q⟩ := onlyNew_st q
  exact Pst.imp q fun d S q v H' k st' r => q v H' k st' (Rep.toM hm r)
end
end Pu

/-! ======== Pu3 ======== -/
/-! Does a text's tree say what a term of the small language says? -/
namespace Pu
open PySem PySem.Spec PyProof.Rows L2

structure Nm where
  top : Nat → Bool
  nc : Nat
  gk : Nat
  fn : Nat → Str
  cl : Nat → Str
  gi : Nat → Str
  ex : Nat → Bool
  pay : Nat → Option Str
  df : Nat → Option Int
def eqS (o : Option Str) (x : Str) : Bool := match o with
  | some y => decide (y = x)
  | none => false
def visB (sc : Scope) (x : Str) : Bool := match sc.names.lookup x with
  | some .local => true
  | some .cell => true
  | some .free => true
  | _ => false
def locB (sc : Scope) (x : Str) : Bool := match sc.names.lookup x with
  | some .local => true
  | some .cell => true
  | _ => false
def onlyLocB (sc : Scope) (x : Str) : Bool := match sc.names.lookup x with
  | some .local => true
  | _ => false
def glB (sc : Scope) (x : Str) : Bool := (match sc.names.lookup x with
  | some .globalImplicit => true
  | _ => false) && !decide (x = ("__debug__" : Str))
def slB (N : List Str) (sc : Scope) (i : Nat) (x : Str) : Bool := eqS N[i]? x && visB sc x && !decide (x = ("__debug__" : Str)) && !decide (x = ("__classdict__" : Str))
def opB : Op → Operator → Bool
  | .add, .Add => true
  | .sub, .Sub => true
  | .mul, .Mult => true
  | .fdiv, .FloorDiv => true
  | .mod, .Mod => true
  | _, _ => false
def cmB : Cm → CmpOp → Bool
  | .eq, .Eq => true
  | .ne, .NotEq => true
  | .lt, .Lt => true
  | .le, .LtE => true
  | .gt, .Gt => true
  | .ge, .GtE => true
  | .inn, .In => true
  | .nin, .NotIn => true
  | _, _ => false
def bltN : Blt → Str
  | .len => "len" | .abs => "abs" | .int => "int" | .tuple => "tuple" | .list => "list" | .sorted => "sorted" | .sum => "sum" | .all => "all" | .any => "any"
  | .max => "max" | .min => "min" | .max2 => "max" | .min2 => "min"
def tyN (nm : Nm) : Ty → Str
  | .int => "int" | .bool => "bool" | .str => "str" | .list => "list" | .tuple => "tuple" | .own c => nm.cl c
def noSet : Expr → Bool
  | .Set .. => false
  | _ => true
def tyB (nm : Nm) (sc : Scope) (t : Ty) : Expr → Bool
  | .Name x _ => decide (x = tyN nm t) && glB sc x && (match t with | .own c => decide (c < nm.nc) | _ => true)
  | _ => false
def tysB (nm : Nm) (sc : Scope) : List Ty → List Expr → Bool
  | [], [] => true
  | t :: ts, e :: es => tyB nm sc t e && tysB nm sc ts es
  | _, _ => false
def nmB (N : List Str) (sc : Scope) (i : Nat) : Expr → Bool
  | .Name x _ => eqS N[i]? x && locB sc x
  | _ => false
def nmsB (N : List Str) (sc : Scope) : List Nat → List Expr → Bool
  | [], [] => true
  | i :: is, e :: es => nmB N sc i e && nmsB N sc is es
  | _, _ => false
def tgB (N : List Str) (sc : Scope) : Tg → Expr → Bool
  | .nm i, e => nmB N sc i e
  | .tp is, .Tuple es _ _ => nmsB N sc is es
  | _, _ => false
def tgIn (own : List Nat) : Tg → Bool
  | .nm i => own.contains i
  | .tp is => is.all own.contains
/-- the places of a block's own names -/
def ownB (N : List Str) (own : List Nat) : List (Str × Nat) := own.filterMap fun i => (N[i]?).map fun x => (x, i)

mutual
def chkE (nm : Nm) (N : List Str) : E → Scope → Expr → Bool
  | .no, _, _ => false
  | .var i, sc, x => match x with
    | .Name y _ => slB N sc i y
    | _ => false
  | .int i, _, x => match x with
    | .Constant (.int j) _ _ => decide (i = j)
    | _ => false
  | .bl b, _, x => match x with
    | .Constant (.bool c) _ _ => b == c
    | _ => false
  | .non, _, x => match x with
    | .Constant .none _ _ => true
    | _ => false
  | .str s, _, x => match x with
    | .Constant (.str z) _ _ => decide (s = z)
    | _ => false
  | .gfn k, sc, x => match x with
    | .Name y _ => nm.top k && decide (y = nm.fn k) && glB sc y
    | _ => false
  | .gint k, sc, x => match x with
    | .Name y _ => decide (k < nm.gk) && decide (y = nm.gi k) && glB sc y
    | _ => false
  | .tup es, sc, x => match x with
    | .Tuple l _ _ => chkEs nm N es sc l && decide (l.length ≤ 1000)
    | _ => false
  | .lst es, sc, x => match x with
    | .List l _ => chkEs nm N es sc l && decide (l.length ≤ 1000)
    | _ => false
  | .bin op a b, sc, x => match x with
    | .BinOp l o r _ => opB op o && chkE nm N a sc l && chkE nm N b sc r
    | _ => false
  | .neg a, sc, x => match x with
    | .UnaryOp .USub l _ => chkE nm N a sc l
    | _ => false
  | .cmp c a b, sc, x => match x with
    | .Compare l [o] [r] _ => cmB c o && chkE nm N a sc l && chkE nm N b sc r && noSet r
    | _ => false
  | .eqi n a b, sc, x => match x with
    | .Compare l [o] [r] _ => (match o with
      | .Eq => !n
      | .NotEq => n
      | _ => false) && noSet r && chkE nm N a sc l && chkE nm N b sc r
    | _ => false
  | .chain c1 c2 a b d, sc, x => match x with
    | .Compare l [o1, o2] [r, t] _ => cmB c1 o1 && cmB c2 o2 && chkE nm N a sc l && chkE nm N b sc r && chkE nm N d sc t && noSet r && noSet t
    | _ => false
  | .isN n a, sc, x => match x with
    | .Compare l [o] [.Constant .none _ _] _ => (match o with | .Is => !n | .IsNot => n | _ => false) && chkE nm N a sc l
    | _ => false
  | .and a b, sc, x => match x with
    | .BoolOp .And [l, r] _ => chkE nm N a sc l && chkE nm N b sc r
    | .BoolOp .And (l :: r :: r2 :: rs) p => chkE nm N a sc l && chkE nm N b sc (.BoolOp .And (r :: r2 :: rs) p)
    | _ => false
  | .or a b, sc, x => match x with
    | .BoolOp .Or [l, r] _ => chkE nm N a sc l && chkE nm N b sc r
    | .BoolOp .Or (l :: r :: r2 :: rs) p => chkE nm N a sc l && chkE nm N b sc (.BoolOp .Or (r :: r2 :: rs) p)
    | _ => false
  | .not a, sc, x => match x with
    | .UnaryOp .Not l _ => chkE nm N a sc l
    | _ => false
  | .ite c a b, sc, x => match x with
    | .IfExp t l r _ => chkE nm N c sc t && chkE nm N a sc l && chkE nm N b sc r
    | _ => false
  | .call k es, sc, x => match x with
    | .Call (.Name y _) (l :: ls) [] _ => nm.top k && decide (y = nm.fn k) && glB sc y && chkEs nm N es sc (l :: ls)
    | _ => false
  | .callv i es, sc, x => match x with
    | .Call (.Name y _) (l :: ls) [] _ => slB N sc i y && chkEs nm N es sc (l :: ls)
    | _ => false
  | .makeD c es i, sc, x => match x with
    | .Call (.Name y _) (l :: ls) [] _ => decide (c < nm.nc) && decide (y = nm.cl c) && glB sc y && chkEs nm N es sc (l :: ls) && decide (nm.df c = some i)
    | _ => false
  | .make c es, sc, x => match x with
    | .Call (.Name y _) (l :: ls) [] _ => decide (c < nm.nc) && decide (y = nm.cl c) && glB sc y && chkEs nm N es sc (l :: ls)
    | _ => false
  | .meth k o es, sc, x => false
  | .blt f es, sc, x => match x with
    | .Call (.Name y _) (l :: ls) [] _ => decide (y = bltN f) && glB sc y && chkEs nm N es sc (l :: ls)
    | _ => false
  | .isin a one ts, sc, x => match x with
    | .Call (.Name y _) [l, r] [] _ => decide (y = ("isinstance" : Str)) && glB sc y && chkE nm N a sc l && (match one, r, ts with
      | true, r, [t] => tyB nm sc t r
      | false, .Tuple rs _ _, ts => tysB nm sc ts rs && !ts.isEmpty && decide (ts.length ≤ 100)
      | _, _, _ => false)
    | _ => false
  | .fld a f, sc, x => match x with
    | .Attribute (.Name y q) g _ => decide (f = g) && chkE nm N a sc (.Name y q)
    | _ => false
  | .idx a b, sc, x => match x with
    | .Subscript l r _ => (match r with
      | .Slice .. => false
      | _ => true) && chkE nm N a sc l && chkE nm N b sc r
    | _ => false
  | .slc a lo hi, sc, x => match x with
    | .Subscript l (.Slice p q none _) _ => chkE nm N a sc l && (match lo with
      | .no => p.isNone
      | _ => match p with
        | some p => chkE nm N lo sc p
        | none => false) && (match hi with
      | .no => q.isNone
      | _ => match q with
        | some q => chkE nm N hi sc q
        | none => false)
    | _ => false
  | .lc elt tg src cond own, sc, x => match x with
    | .ListComp el [⟨t, it, ifs, 0⟩] s2 _ => chkSrc nm N src sc t it && blkC N sc s2 (ownB N own) && tgB N s2 tg t && tgIn own tg && decide ((ownB N own).map (·.2) = own) && chkE nm N elt (relS s2 sc) el && (match cond, ifs with
      | .no, [] => true
      | .no, _ => false
      | c, [i] => chkE nm N cond (relS s2 sc) i
      | _, _ => false) && noSet it
    | _ => false
  | .lc2 .., _, _ => false
  | .tupS s, sc, x => match x with
    | .Call (.Name f _) [.Call (.Name g _) l [] _] [] _ => decide (f = ("tuple" : Str)) && glB sc f && decide (g = ("range" : Str)) && glB sc g && (match s with
      | .rng1 a => (match l with
        | [x] => chkE nm N a sc x
        | _ => false)
      | .rng2 a b => (match l with
        | [x, y] => chkE nm N a sc x && chkE nm N b sc y
        | _ => false)
      | _ => false)
    | _ => false
  | .lstS s, sc, x => match x with
    | .Call (.Name f _) [.Call (.Name g _) l [] _] [] _ => decide (f = ("list" : Str)) && glB sc f && decide (g = ("range" : Str)) && glB sc g && (match s with
      | .rng1 a => (match l with
        | [x] => chkE nm N a sc x
        | _ => false)
      | .rng2 a b => (match l with
        | [x, y] => chkE nm N a sc x && chkE nm N b sc y
        | _ => false)
      | _ => false)
    | _ => false
  | .sset e, sc, x => match x with
    | .Call (.Name f _) [.Call (.Name g _) [l] [] _] [] _ => decide (f = ("sorted" : Str)) && glB sc f && decide (g = ("set" : Str)) && glB sc g && chkE nm N e sc l
    | _ => false
  | .sortk e k, sc, x => match x with
    | .Call (.Name f _) [l] [⟨some kw, .Name y _, _⟩] _ => decide (f = ("sorted" : Str)) && glB sc f && chkE nm N e sc l && decide (kw = ("key" : Str)) && nm.top k && decide (y = nm.fn k) && glB sc y
    | _ => false
  | .dix i k, sc, x => match x with
    | .Subscript (.Name y _) z _ => slB N sc i y && (match z with
      | .Slice .. => false
      | _ => true) && chkE nm N k sc z
    | _ => false
  | .dgd i k d, sc, x => match x with
    | .Call (.Attribute (.Name y _) m q) [a, b] [] r => decide (m = ("get" : Str)) && slB N sc i y && chkE nm N k sc a && chkE nm N d sc b && (q.endLine == r.line)
    | _ => false
  | .din n k i, sc, x => match x with
    | .Compare a [o] [.Name y _] _ => (match o with
      | .In => !n
      | .NotIn => n
      | _ => false) && slB N sc i y && chkE nm N k sc a
    | _ => false
  | .dlen i, sc, x => match x with
    | .Call (.Name f _) [.Name y _] [] _ => decide (f = ("len" : Str)) && glB sc f && slB N sc i y
    | _ => false
  | .dls i, sc, x => match x with
    | .Call (.Name f _) [.Name y _] [] _ => decide (f = ("list" : Str)) && glB sc f && slB N sc i y
    | _ => false
  | .sortkd i k, sc, x => match x with
    | .Call (.Name f _) [.Name z _] [⟨some kw, .Name y _, _⟩] _ => decide (f = ("sorted" : Str)) && glB sc f && slB N sc i z && decide (kw = ("key" : Str)) && nm.top k && decide (y = nm.fn k) && glB sc y
    | _ => false
def chkEs (nm : Nm) (N : List Str) : Es → Scope → List Expr → Bool
  | .nil, _, l => l.isEmpty
  | .cons e es, sc, l => match l with
    | x :: xs => chkE nm N e sc x && chkEs nm N es sc xs
    | [] => false
def chkSrc (nm : Nm) (N : List Str) : Src → Scope → Expr → Expr → Bool
  | .ex e, sc, _, x => chkE nm N e sc x && noSet x
  | .rng1 a, sc, _, x => match x with
    | .Call (.Name y _) [l] [] _ => decide (y = ("range" : Str)) && glB sc y && chkE nm N a sc l
    | _ => false
  | .rng2 a b, sc, _, x => match x with
    | .Call (.Name y _) [l, r] [] _ => decide (y = ("range" : Str)) && glB sc y && chkE nm N a sc l && chkE nm N b sc r
    | _ => false
  | .rng3 a b c, _, _, _ => false
  | .enum e, sc, t, x => match t, x with
    | .Tuple _ _ _, .Call (.Name y _) [l] [] _ => decide (y = ("enumerate" : Str)) && glB sc y && chkE nm N e sc l
    | _, _ => false
  | .dk i, sc, t, x => match x with
    | .Name y _ => slB N sc i y
    | _ => false
  | .zip a b, sc, t, x => match t, x with
    | .Tuple _ _ _, .Call (.Name y _) [l, r] [] _ => decide (y = ("zip" : Str)) && glB sc y && chkE nm N a sc l && chkE nm N b sc r
    | _, _ => false
end

/-- not a list display of another block -/
def plainV : Expr → Bool
  | .ListComp .. => false
  | .SetComp .. => false
  | .DictComp .. => false
  | _ => true
/-- the names of the targets, plain locals on one line -/
def parName (sc : Scope) (line : Nat) (e : Expr) : Option Str := match e with
  | .Name id pos => if sc.names.lookup id == some .local && pos.line == line then some id else none
  | _ => none
def parNames (sc : Scope) (line : Nat) (ts : List Expr) : List Str := ts.filterMap (parName sc line)
def lineOf (ts : List Expr) : Nat := (ts.head?.map (·.pos.line)).getD 0
/-- the stores go from the right -/
def swapB (sc : Scope) (ts vs : List Expr) : Bool := (ts.length == 2 || ts.length == 3) && vs.length == ts.length && (parNames sc (lineOf ts) ts).length == ts.length && (parNames sc (lineOf ts) ts).eraseDups.length == ts.length && !(vs.all (foldedForSure 8)) && !(vs.all (constantsAlone 8))
def noSwapB (sc : Scope) (ts : List Expr) : Expr → Bool
  | .Tuple vs _ _ => !(ts.length == 2 || ts.length == 3) || vs.length != ts.length || (parNames sc (lineOf ts) ts).length != ts.length || vs.all (foldedForSure 8)
  | _ => true
mutual
def chkS (nm : Nm) (N : List Str) (sc : Scope) : S → Stmt → Bool
  | .asg t e, x => match x with
    | .Assign [tg] v p => tgB N sc t tg && chkE nm N e sc v && plainV v && (match tg with
      | .Tuple ts _ _ => noSwapB sc ts v
      | .Name .. => true
      | _ => false)
    | _ => false
  | .asgb i e, x => match x with
    | .Assign [.Name y p] v _ => nmB N sc i (.Name y p) && chkE nm N e sc v
    | _ => false
  | .par is es, x => match x with
    | .Assign [.Tuple ts _ _] (.Tuple vs _ _) _ => nmsB N sc is ts && chkEs nm N es sc vs && swapB sc ts vs
    | _ => false
  | .mv _ _, _ => false
  | .app i e, x => match x with
    | .Expr (.Call (.Attribute (.Name y p) m q) [v] [] r) _ => decide (m = ("append" : Str)) && slB N sc i y && chkE nm N e sc v && (q.endLine == r.line)
    | _ => false
  | .ext i e, x => match x with
    | .Expr (.Call (.Attribute (.Name y p) m q) [v] [] r) _ => decide (m = ("extend" : Str)) && slB N sc i y && chkE nm N e sc v && (q.endLine == r.line)
    | _ => false
  | .pop t i, x => match x with
    | .Assign [tg] (.Call (.Attribute (.Name y p) m q) [] [] r) _ => decide (m = ("pop" : Str)) && slB N sc i y && tgB N sc t tg && (q.endLine == r.line)
    | _ => false
  | .setix i k e, x => match x with
    | .Assign [.Subscript (.Name y p) z _] v _ => slB N sc i y && chkE nm N k sc z && chkE nm N e sc v && plainV v && (match z with
      | .Slice .. => false
      | _ => true)
    | _ => false
  | .setst i k e, x => match x with
    | .Assign [.Subscript (.Name y p) z _] v _ => slB N sc i y && chkE nm N k sc z && chkE nm N e sc v && plainV v && (match z with
      | .Slice .. => false
      | _ => true)
    | _ => false
  | .setf i f e, x => match x with
    | .Assign [.Attribute (.Name y p) g _] v _ => decide (f = g) && slB N sc i y && chkE nm N e sc v && plainV v
    | _ => false
  | .expr e, x => match x with
    | .Expr v _ => chkE nm N e sc v && plainV v
    | _ => false
  | .ret e, x => match x with
    | .Return (some v) _ => chkE nm N e sc v
    | _ => false
  | .retb i, x => match x with
    | .Return (some (.Name y _)) _ => slB N sc i y
    | _ => false
  | .retf e, x => match x with
    | .Return (some v) _ => chkE nm N e sc v
    | _ => false
  | .raise c z, x => match x with
    | .Raise (some (.Call (.Name y _) [.Constant (.str u) _ _] [] _)) none _ => nm.ex c && decide (y = nm.cl c) && glB sc y && decide (z = u)
    | _ => false
  | .ite c a b, x => match x with
    | .If t l r _ => chkE nm N c sc t && chkSs nm N sc a l && chkSs nm N sc b r
    | _ => false
  | .for_ t s body kill, x => match x with
    | .For tg it l [] _ => tgB N sc t tg && chkSrc nm N s sc tg it && chkSs nm N sc body l && noSet it
    | _ => false
  | .while_ c body kill, x => match x with
    | .While t l [] _ => chkE nm N c sc t && chkSs nm N sc body l
    | _ => false
  | .told body c1 s1 c2 i f s2, x => match x with
    | .Try l [.ExceptHandler (some (.Name x1 _)) none [.Return (some (.Tuple [.Constant (.str u1) _ _, .Constant .none _ _] _ _)) _] _, .ExceptHandler (some (.Name x2 _)) (some n) [.Return (some (.Tuple [.Constant (.str u2) _ _, .Attribute (.Name n2 _) g _] _ _)) _] _] [] [] _ =>
      chkSs nm N sc body l && nm.ex c1 && nm.ex c2 && decide (x1 = nm.cl c1) && glB sc x1 && decide (x2 = nm.cl c2) && glB sc x2 && decide (u1 = s1) && decide (u2 = s2) && decide (g = f) && decide (n2 = n) && slB N sc i n && onlyLocB sc n && decide (nm.pay c2 = some f)
    | _ => false
  | .asgd i, x => match x with
    | .Assign [.Name y p] (.Dict [] [] _) _ => nmB N sc i (.Name y p)
    | _ => false
  | .asgd1 i k e, x => match x with
    | .Assign [.Name y p] (.Dict [some a] [b] _) _ => nmB N sc i (.Name y p) && chkE nm N k sc a && chkE nm N e sc b
    | _ => false
  | .putd i k e, x => match x with
    | .Assign [.Subscript (.Name y p) z _] v _ => slB N sc i y && chkE nm N k sc z && chkE nm N e sc v && plainV v && (match z with
      | .Slice .. => false
      | _ => true)
    | _ => false
  | .frzd _, _ => false
  | .frz _, _ => false
  | .pass, x => match x with
    | .Pass _ => true
    | _ => false
def chkSs (nm : Nm) (N : List Str) (sc : Scope) : Ss → List Stmt → Bool
  | .nil, l => l.isEmpty
  | .cons s ss, l => match s with
    | .frz _ => chkSs nm N sc ss l
    | .frzd _ => chkSs nm N sc ss l
    | _ => match l with
      | x :: xs => chkS nm N sc s x && chkSs nm N sc ss xs
      | [] => false
end
end Pu

/-! ======== Pu4 ======== -/
/-! The machine does what the small language says: expressions. -/
namespace Pu
open PySem PySem.Spec PyProof.Rows L2

/-- several values, each by the way of reading -/
inductive RepsM (w : Wd) (ps : Option Addr) (m : Md) (H0 H : Hp) : List V → List D → Prop
  | nil : RepsM w ps m H0 H [] []
  | cons {v : V} {vs : List V} {d : D} {ds : List D} : RepM w ps m H0 H v d → RepsM w ps m H0 H vs ds → RepsM w ps m H0 H (v :: vs) (d :: ds)
def RetA (w : Wd) (ps : Option Addr) (m : Md) (Q : List V → Hp → Prop) (ds : List D) (S : Sx) (H : Hp) : Prop := ∀ vs H', Keep ps H H' → StOk w ps S H' → RepsM w ps m H H' vs ds → Q vs H'
def tA (w : Wd) (W : XK) (m : Md) (de : Rho → Sx → R (List D)) : TA := fun σ H Q => ∃ ps H0 ρ S, EnvOk w ps H0 ρ σ H ∧ StOk w ps S H ∧ Pst w ps W (de ρ S) H (RetA w ps m Q)
def RetT (w : Wd) (ps : Option Addr) (Q : Bool → Hp → Prop) (b : Bool) (S : Sx) (H : Hp) : Prop := ∀ H', Keep ps H H' → StOk w ps S H' → Q b H'
def tT (w : Wd) (W : XK) (de : Rho → Sx → R Bool) : TT := fun σ H Q => ∃ ps H0 ρ S, EnvOk w ps H0 ρ σ H ∧ StOk w ps S H ∧ Pst w ps W (de ρ S) H (RetT w ps Q)

section
variable {w : Wd} {ps : Option Addr} {H H' H1 H2 : Hp}
theorem RepM.mono {m : Md} {v : V} {d : D} (hm : m < 2) (k : Keep ps H H') (r : RepM w ps m H1 H v d) : RepM w ps m H2 H' v d := by
  match m, hm, r with
  | 0, _, r => exact Rep.mono k.kd r
  | 1, _, .inl r => exact .inl (r.mono k.kd)
  | 1, _, .inr ⟨p, vs, ds, e1, e2, e3, e4, e5⟩ => exact .inr ⟨p, vs, ds, e1, e2, e3, k.to e4 e3, e5.mono k.kd⟩
theorem RepsM.mono {m : Md} (hm : m < 2) (k : Keep ps H H') : ∀ {vs : List V} {ds : List D}, RepsM w ps m H1 H vs ds → RepsM w ps m H2 H' vs ds
  | _, _, .nil => .nil
  | _, _, .cons r t => .cons (r.mono hm k) (t.mono hm k)
theorem RepsM.all : ∀ {vs : List V} {ds : List D}, RepsM w ps 0 H1 H vs ds → RepAll w ps H vs ds
  | _, _, .nil => .nil
  | _, _, .cons r t => .cons r t.all
theorem RetA.mon {m : Md} {Q : List V → Hp → Prop} (hm : m < 2) : Mon ps (RetA w ps m Q) := fun d S H H' k h v H2 k2 st r => h v H2 (k.trans k2) st (r.mono hm Keep.refl)
theorem RetT.mon {Q : Bool → Hp → Prop} : Mon ps (RetT w ps Q) := fun d S H H' k h H2 k2 st => h H2 (k.trans k2) st
/-- laying a new thing: it may be looked at, and all that was stands -/
theorem Ret.new {m : Md} {Q : VK} {d : D} {S : Sx} {p : Addr} {o : HO} (h : Ret w ps m Q d S H) (st : StOk w ps S H) (n : H p = none) (r : RepM w ps m H (upd H p o) (.ref p) d) : Q (.ref p) (upd H p o) := h _ _ (Keep.upd n) (st.upd n) r
theorem kd_upd {p : Addr} {o : HO} (n : H p = none) : Kd w H (upd H p o) := (Keep.upd (ps := none) n).kd
end

section
variable {w : Wd} {W : XK} {X : Cx} {pos : Pos} {m : Md} {g : G}
/-! ### names and written things -/
theorem ok_var {i : Nat} {x : Str} (h : slB X.N X.env.scope i x = true) : PE X (.Name x pos) (tE w W m ((E.var i).den g m)) := by
  unfold slB at h
  simp only [Bool.and_eq_true, Bool.not_eq_true', decide_eq_false_iff_not] at h
  obtain ⟨⟨⟨h1, h2⟩, h3⟩, h4⟩ := h
  have hN : X.N[i]? = some x := by
    unfold eqS at h1
    split at h1
    · rename_i y e
      rw [e, of_decide_eq_true h1]
    · cases h1
  have hv : Vis X.env.scope x := by
    unfold visB at h2
    split at h2
    · exact .inl (by assumption)
    · exact .inr (.inl (by assumption))
    · exact .inr (.inr (by assumption))
    · cases h2
  refine peImp (pe_var (i := i) hN hv (by simpa using h3) (by simpa using h4)) fun σ H Q ⟨ps, H0, ρ, S, env, st, q⟩ => ?_
  unfold E.den at q
  split at q
  · rename_i d e
    obtain ⟨hm, q⟩ := onlyNew_st q
    obtain ⟨v, e1, r⟩ := env.slot i _ e
    exact ⟨v, e1, q v H Keep.refl st (r.toM hm)⟩
  · rename_i ds e
    split at q
    · rename_i hm
      subst hm
      obtain ⟨p, vs, e1, hp, r, _, np⟩ := env.slot i _ e
      exact ⟨_, e1, q _ H Keep.refl st (.inr ⟨p, vs, ds, rfl, rfl, np, hp, r⟩)⟩
    · exact q.elim
  · exact q.elim
theorem ok_const {e : Expr} {v : V} {d : D} (h : PE X e (tC v)) (r : ∀ ps H, Rep w ps H v d) : PE X e (tE w W m (fun ρ S => onlyNew m (.ok d S))) :=
  peImp h fun σ H Q ⟨ps, H0, ρ, S, env, st, q⟩ => by
    obtain ⟨hm, q⟩ := onlyNew_st q
    exact q v H Keep.refl st ((r ps H).toM hm)
/-! ### lists of arguments -/
theorem ok_nil : PA X [] (tA w W m fun _ S => .ok [] S) := ⟨fun pos pins s σ H Q I ⟨ps, H0, ρ, S, env, st, q⟩ => pa_nil.run pos pins s σ H Q I (q [] H Keep.refl st .nil)⟩
theorem ok_cons {e : Expr} {es : List Expr} {d1 : Rho → Sx → R D} {d2 : Rho → Sx → R (List D)} (hm : m < 2) (h1 : PE X e (tE w W m d1)) (h2 : PA X es (tA w W m d2)) (hs : starEach (e :: es) X.env = (false, eval e X.env) :: starEach es X.env) :
    PA X (e :: es) (tA w W m fun ρ S => (d1 ρ S).bind fun d S => (d2 ρ S).bind fun ds S => .ok (d :: ds) S) :=
  ⟨fun pos pins s σ H Q I ⟨ps, H0, ρ, S, env, st, q⟩ => (pa_cons h1 h2 hs).run pos pins s σ H Q I
    ⟨ps, H0, ρ, S, env, st, step (RetA.mon hm) q fun d S1 v H1 k1 st1 r1 q1 => ⟨ps, H0, ρ, S1, env.mono k1, st1, by
      rw [Pst.bind] at q1
      exact q1.imp fun ds S2 q2 vs H2 k2 st2 r2 => q2 (v :: vs) H2 k2 st2 (.cons (r1.mono hm k2) r2)⟩⟩⟩
theorem star_cons (e : Expr) (es : List Expr) (env : Env) (h : ∀ x p, e ≠ .Starred x p) : starEach (e :: es) env = (false, eval e env) :: starEach es env := by
  cases e <;> first | rfl | exact absurd rfl (h _ _)
theorem ok_tup {es : List Expr} {k : Nat} {d : Rho → Sx → R (List D)} (h : PA X es (tA w W 0 d)) (hl : es.length ≤ 1000) (len : ∀ ρ S ds S', d ρ S = .ok ds S' → ds.length = es.length) :
    PE X (.Tuple es k pos) (tE w W m fun ρ S => onlyNew m ((d ρ S).bind fun ds S => .ok (.tup ds) S)) := by
  refine peOld (peImp (pe_tup h) ?_) m
  rintro σ H Q ⟨ps, H0, ρ, S, env, st, q⟩
  exact ⟨ps, H0, ρ, S, env, st, by
    try dsimp only at q
    rw [Pst.bind] at q
    cases e : d ρ S with
    | ok ds S1 =>
      rw [e] at q
      refine fun vs H1 k1 st1 r1 => ⟨?_, fun p hp => ?_⟩
      · have l1 := r1.all.length
        have l2 := len ρ S ds S1 e
        show vs.length ≤ sizeLine
        exact Nat.le_trans (by omega) (by decide : 1000 ≤ sizeLine)
      · exact (show Ret w ps 0 Q (.tup ds) S1 H from q) _ _ (k1.trans (Keep.upd hp)) (st1.upd hp) (.tup upd_same (r1.all.mono (kd_upd hp)))
    | exc c p S1 => rw [e] at q; exact q
    | stuck => rw [e] at q; exact q⟩
theorem ok_lst {es : List Expr} {d : Rho → Sx → R (List D)} (h : PA X es (tA w W 0 d)) (hl : es.length ≤ 1000) (hm : m < 3) (len : ∀ ρ S ds S', d ρ S = .ok ds S' → ds.length = es.length) :
    PE X (.List es pos) (tE w W m fun ρ S => (d ρ S).bind fun ds S => .ok (.lst ds) S) := by
  refine peNew (peImp (pe_lst h) ?_) m hm
  rintro σ H Q ⟨ps, H0, ρ, S, env, st, q⟩
  exact ⟨ps, H0, ρ, S, env, st, by
    try dsimp only at q
    rw [Pst.bind] at q
    cases e : d ρ S with
    | ok ds S1 =>
      rw [e] at q
      refine fun vs H1 k1 st1 r1 => ⟨?_, fun p hp => ?_⟩
      · have l1 := r1.all.length
        have l2 := len ρ S ds S1 e
        show vs.length ≤ sizeLine
        exact Nat.le_trans (by omega) (by decide : 1000 ≤ sizeLine)
      · exact (show Ret w ps 2 Q (.lst ds) S1 H from q) _ _ (k1.trans (Keep.upd hp)) (st1.upd hp) ⟨p, vs, ds, rfl, rfl, st1.ne hp, k1.back hp (st1.ne hp), upd_same, r1.all.mono (kd_upd hp)⟩
    | exc c p S1 => rw [e] at q; exact q
    | stuck => rw [e] at q; exact q⟩
/-! ### tests -/
theorem ok_truth {e : Expr} {d : Rho → Sx → R D} (h : PE X e (tE w W 0 d)) (he : ∀ whole, isTrue e X.env whole = (do let v ← whole; standAt e.pos; holding [v] (truthy v))) : PT X e (tT w W fun ρ S => truth (d ρ S)) :=
  ⟨fun pins s σ H Q I ⟨ps, H0, ρ, S, env, st, q⟩ => (pt_val h he).run pins s σ H Q I ⟨ps, H0, ρ, S, env, st, by
    have q' : Pst w ps W ((d ρ S).bind fun d S => match d with | .bl b => .ok b S | _ => .stuck) H (RetT w ps Q) := q
    rw [Pst.bind] at q'
    refine Pst.imp q' fun d S q v H1 k1 st1 r1 => ?_
    cases d with
    | bl b => cases r1; exact ⟨b, rfl, q H1 k1 st1⟩
    | _ => exact q.elim⟩⟩
/-- a test whose value is a truth, as a value -/
theorem truth_ok {w : Wd} {W : XK} {d : Rho → Sx → R D} {F : Bool → Sx → Hp → Prop} {ps : Option Addr} {ρ : Rho} {S : Sx} {H : Hp} (q : Pst w ps W (truth (d ρ S)) H F) : Pst w ps W (d ρ S) H fun d S H => ∃ b, d = .bl b ∧ F b S H := by
  have q' : Pst w ps W ((d ρ S).bind fun d S => match d with | .bl b => .ok b S | _ => .stuck) H F := q
  rw [Pst.bind] at q'
  refine Pst.imp q' fun d S q => ?_
  cases d with
  | bl b => exact ⟨b, rfl, q⟩
  | _ => exact q.elim
theorem ok_and {a b : Expr} {rest : List Expr} {da db : Rho → Sx → R D} (ha : PE X a (tE w W 0 da)) (hb : PE X (.BoolOp .And (b :: rest) pos) (tE w W 0 db)) :
    PE X (.BoolOp .And (a :: b :: rest) pos) (tE w W m fun ρ S => onlyNew m ((truth (da ρ S)).bind fun x S => if x then db ρ S else .ok (.bl false) S)) := by
  refine peOld (peImp (pe_and ha hb) ?_) m
  rintro σ H Q ⟨ps, H0, ρ, S, env, st, q⟩
  exact ⟨ps, H0, ρ, S, env, st, by
    try dsimp only at q
    rw [truth_bind] at q
    refine step Ret.mon q fun d S1 v H1 k1 st1 r1 q1 => ?_
    cases d with
    | bl b =>
      cases r1
      refine ⟨b, rfl, ?_⟩
      cases b with
      | false => exact q1 _ H1 Keep.refl st1 (Rep.bl _)
      | true => exact ⟨ps, H0, ρ, S1, env.mono k1, st1, q1⟩
    | _ => exact q1.elim⟩
theorem ok_or {a b : Expr} {rest : List Expr} {da db : Rho → Sx → R D} (ha : PE X a (tE w W 0 da)) (hb : PE X (.BoolOp .Or (b :: rest) pos) (tE w W 0 db)) :
    PE X (.BoolOp .Or (a :: b :: rest) pos) (tE w W m fun ρ S => onlyNew m ((truth (da ρ S)).bind fun x S => if x then .ok (.bl true) S else db ρ S)) := by
  refine peOld (peImp (pe_or ha hb) ?_) m
  rintro σ H Q ⟨ps, H0, ρ, S, env, st, q⟩
  exact ⟨ps, H0, ρ, S, env, st, by
    try dsimp only at q
    rw [truth_bind] at q
    refine step Ret.mon q fun d S1 v H1 k1 st1 r1 q1 => ?_
    cases d with
    | bl b =>
      cases r1
      refine ⟨b, rfl, ?_⟩
      cases b with
      | true => exact q1 _ H1 Keep.refl st1 (Rep.bl _)
      | false => exact ⟨ps, H0, ρ, S1, env.mono k1, st1, q1⟩
    | _ => exact q1.elim⟩
theorem ok_not {a : Expr} {da : Rho → Sx → R D} (ha : PE X a (tE w W 0 da)) :
    PE X (.UnaryOp .Not a pos) (tE w W m fun ρ S => onlyNew m ((truth (da ρ S)).bind fun x S => .ok (.bl (!x)) S)) := by
  refine peOld (peImp (pe_not ha) ?_) m
  rintro σ H Q ⟨ps, H0, ρ, S, env, st, q⟩
  exact ⟨ps, H0, ρ, S, env, st, by
    try dsimp only at q
    rw [truth_bind] at q
    refine step Ret.mon q fun d S1 v H1 k1 st1 r1 q1 => ?_
    cases d with
    | bl b =>
      cases r1
      exact ⟨b, rfl, q1 _ H1 Keep.refl st1 (Rep.bl _)⟩
    | _ => exact q1.elim⟩
theorem ok_ite {c a b : Expr} {dc : Rho → Sx → R Bool} {da db : Rho → Sx → R D} (hc : PT X c (tT w W dc)) (ha : PE X a (tE w W m da)) (hb : PE X b (tE w W m db)) :
    PE X (.IfExp c a b pos) (tE w W m fun ρ S => (dc ρ S).bind fun x S => if x then da ρ S else db ρ S) :=
  peImp (pe_ifExp hc ha hb) fun σ H Q ⟨ps, H0, ρ, S, env, st, q⟩ => ⟨ps, H0, ρ, S, env, st, by
    try dsimp only at q
    rw [Pst.bind] at q
    refine Pst.imp q fun b S1 q H1 k1 st1 => ?_
    have q1 := Pst.mono Ret.mon k1 q
    cases b with
    | true => exact ⟨ps, H0, ρ, S1, env.mono k1, st1, q1⟩
    | false => exact ⟨ps, H0, ρ, S1, env.mono k1, st1, q1⟩⟩
/-! .. and as tests -/
theorem ot_and1 {a : Expr} {op : BoolOp} {da : Rho → Sx → R Bool} (ha : PT X a (tT w W da)) : PW X (.BoolOp op [a] pos) (tT w W da) := by
  cases op
  · exact pw_and1 ha
  · exact pw_or1 ha
theorem ot_and {a b : Expr} {rest : List Expr} {da db : Rho → Sx → R Bool} (ha : PT X a (tT w W da)) (hb : PW X (.BoolOp .And (b :: rest) pos) (tT w W db)) :
    PW X (.BoolOp .And (a :: b :: rest) pos) (tT w W fun ρ S => (da ρ S).bind fun x S => if x then db ρ S else .ok false S) :=
  ⟨fun whole pins s σ H Q I ⟨ps, H0, ρ, S, env, st, q⟩ => (pw_and ha hb).run whole pins s σ H Q I ⟨ps, H0, ρ, S, env, st, by
    try dsimp only at q
    rw [Pst.bind] at q
    refine Pst.imp q fun b S1 q H1 k1 st1 => ?_
    have q1 := Pst.mono RetT.mon k1 q
    cases b with
    | true => exact ⟨ps, H0, ρ, S1, env.mono k1, st1, q1⟩
    | false => exact q1 H1 Keep.refl st1⟩⟩
theorem ot_or {a b : Expr} {rest : List Expr} {da db : Rho → Sx → R Bool} (ha : PT X a (tT w W da)) (hb : PW X (.BoolOp .Or (b :: rest) pos) (tT w W db)) :
    PW X (.BoolOp .Or (a :: b :: rest) pos) (tT w W fun ρ S => (da ρ S).bind fun x S => if x then .ok true S else db ρ S) :=
  ⟨fun whole pins s σ H Q I ⟨ps, H0, ρ, S, env, st, q⟩ => (pw_or ha hb).run whole pins s σ H Q I ⟨ps, H0, ρ, S, env, st, by
    try dsimp only at q
    rw [Pst.bind] at q
    refine Pst.imp q fun b S1 q H1 k1 st1 => ?_
    have q1 := Pst.mono RetT.mon k1 q
    cases b with
    | true => exact q1 H1 Keep.refl st1
    | false => exact ⟨ps, H0, ρ, S1, env.mono k1, st1, q1⟩⟩⟩
theorem ot_not {a : Expr} {da : Rho → Sx → R Bool} (ha : PT X a (tT w W da)) : PT X (.UnaryOp .Not a pos) (tT w W fun ρ S => (da ρ S).bind fun x S => .ok (!x) S) :=
  ⟨fun pins s σ H Q I ⟨ps, H0, ρ, S, env, st, q⟩ => (pt_not ha).run pins s σ H Q I ⟨ps, H0, ρ, S, env, st, by
    try dsimp only at q
    rw [Pst.bind] at q
    exact Pst.imp q fun b S1 q H1 k1 st1 => q H1 k1 st1⟩⟩
theorem pt_ifExp {c a b : Expr} {tc ta tb : TT} (hc : PT X c tc) (ha : PT X a ta) (hb : PT X b tb) : PT X (.IfExp c a b pos) (fun σ H Q => tc σ H fun x H1 => if x = true then ta σ H1 Q else tb σ H1 Q) :=
  ⟨fun pins s σ H Q I h => by
    show wpAny _ _ (isTrue (.IfExp c a b pos) X.env _) _ _ _
    unfold PySem.isTrue
    refine wpAny_bind (thn (hc.run pins s σ H _ I h) fun x s1 ⟨H1, I1, q1⟩ => ?_)
    cases x with
    | true => exact ha.run pins s1 σ H1 Q I1 q1
    | false => exact hb.run pins s1 σ H1 Q I1 q1⟩
theorem ot_ite {c a b : Expr} {dc da db : Rho → Sx → R Bool} (hc : PT X c (tT w W dc)) (ha : PT X a (tT w W da)) (hb : PT X b (tT w W db)) :
    PT X (.IfExp c a b pos) (tT w W fun ρ S => (dc ρ S).bind fun x S => if x then da ρ S else db ρ S) :=
  ⟨fun pins s σ H Q I ⟨ps, H0, ρ, S, env, st, q⟩ => (pt_ifExp hc ha hb).run pins s σ H Q I ⟨ps, H0, ρ, S, env, st, by
    try dsimp only at q
    rw [Pst.bind] at q
    refine Pst.imp q fun b S1 q H1 k1 st1 => ?_
    have q1 := Pst.mono RetT.mon k1 q
    cases b with
    | true => exact ⟨ps, H0, ρ, S1, env.mono k1, st1, q1⟩
    | false => exact ⟨ps, H0, ρ, S1, env.mono k1, st1, q1⟩⟩⟩
theorem ptImp {e : Expr} {d d' : Rho → Sx → R Bool} (h : PT X e (tT w W d)) (i : ∀ ρ S, d' ρ S = d ρ S) : PT X e (tT w W d') := by
  have : d' = d := funext fun ρ => funext fun S => i ρ S
  rw [this]
  exact h
theorem ot_of {e : Expr} {t : TE} {d : Rho → Sx → R D} (h : PT X e (tTest t)) (i : ∀ σ H Q, tE w W 0 d σ H Q → t σ H Q) : PT X e (tT w W fun ρ S => truth (d ρ S)) :=
  ⟨fun pins s σ H Q I ⟨ps, H0, ρ, S, env, st, q⟩ => h.run pins s σ H Q I (i σ H _ ⟨ps, H0, ρ, S, env, st, Pst.imp (truth_ok (d := d) q) fun d S q v H1 k1 st1 r1 => by
    obtain ⟨b, rfl, q⟩ := q
    cases r1
    exact ⟨b, rfl, q H1 k1 st1⟩⟩)⟩
end
end Pu

/-! ======== Pu5 ======== -/
/-! Operators, comparisons, subscripts, built-ins: what they do with data. -/
namespace Pu
open PySem PySem.Spec PyProof.Rows L2

section
variable {w : Wd} {ps : Option Addr} {H0 H : Hp} {v u : V}
theorem lstOf {ds : List D} (r : RepM w ps 1 H0 H v (.lst ds)) : ∃ a vs, v = .ref a ∧ Rd H a (.lst vs) ∧ RepAll w ps H vs ds := by
  rcases r with r | ⟨p, vs, ds', e, rfl, _, hp, r⟩
  · cases r with
    | lst h1 h2 => exact ⟨_, _, rfl, .inr ⟨_, h1⟩, h2⟩
  · cases e
    exact ⟨_, _, rfl, .inl hp, r⟩
theorem tupOf {ds : List D} (r : RepM w ps 1 H0 H v (.tup ds)) : ∃ a vs, v = .ref a ∧ SqT w.K H a vs ∧ RepAll w ps H vs ds := by
  rcases r with r | ⟨p, vs, ds', e, _⟩
  · cases r with
    | tup h1 h2 => exact ⟨_, _, rfl, .inl (.inl h1), h2⟩
  · cases e
theorem tupSame {ds : List D} (r : RepM w ps 1 H0 H v (.tup ds)) : Rep w ps H v (.tup ds) := by
  rcases r with r | ⟨p, vs, ds', e, _⟩
  · exact r
  · cases e
theorem intOf {i : Int} (r : RepM w ps 1 H0 H v (.int i)) : v = .int i := by
  rcases r with r | ⟨p, vs, ds', e, _⟩
  · cases r; rfl
  · cases e
theorem strOf {x : Str} (r : RepM w ps 1 H0 H v (.str x)) : v = .str x := by
  rcases r with r | ⟨p, vs, ds', e, _⟩
  · cases r; rfl
  · cases e
theorem dpOf {d : D} (r : RepM w ps 1 H0 H v d) (h : d.py.canLay0 = true) : Dp w.K H v d.py := by
  rcases r with r | ⟨p, vs, ds, rfl, rfl, _, hp, r⟩
  · exact r.dp h
  · exact .lst (.inl (.inl hp)) (r.dp h)
theorem intsOf {ds : List D} {l : List Int} : ∀ {vs : List V}, RepAll w ps H vs ds → intsD ds = some l → vs = l.map V.int := by
  induction ds generalizing l with
  | nil =>
    intro vs r e
    cases r
    cases e
    rfl
  | cons d ds ih =>
    intro vs r e
    cases r with
    | cons r1 r2 =>
      cases d with
      | int i =>
        have e' : (intsD ds).map (i :: ·) = some l := e
        cases h : intsD ds with
        | none => rw [h] at e'; cases e'
        | some l' =>
          rw [h] at e'
          cases e'
          cases r1
          rw [ih r2 h]
          rfl
      | _ => cases e
theorem blsOf {ds : List D} {l : List Bool} : ∀ {vs : List V}, RepAll w ps H vs ds → blsD ds = some l → vs = l.map V.bl := by
  induction ds generalizing l with
  | nil =>
    intro vs r e
    cases r
    cases e
    rfl
  | cons d ds ih =>
    intro vs r e
    cases r with
    | cons r1 r2 =>
      cases d with
      | bl i =>
        have e' : (blsD ds).map (i :: ·) = some l := e
        cases h : blsD ds with
        | none => rw [h] at e'; cases e'
        | some l' =>
          rw [h] at e'
          cases e'
          cases r1
          rw [ih r2 h]
          rfl
      | _ => cases e
theorem RepM.int3 {i : Int} : RepM w ps 3 H0 H (.int i) (.int i) := .inl ⟨fun _ h => (nomatch h), .int i⟩
theorem RepM.bl3 {b : Bool} : RepM w ps 3 H0 H (.bl b) (.bl b) := .inl ⟨fun _ h => (nomatch h), .bl b⟩
theorem RepM.str3 {x : Str} : RepM w ps 3 H0 H (.str x) (.str x) := .inl ⟨fun _ h => (nomatch h), .str x⟩
theorem RepM.tup3 {ds : List D} (r : Rep w ps H v (.tup ds)) : RepM w ps 3 H0 H v (.tup ds) := .inl ⟨fun _ h => (nomatch h), r⟩
theorem RepAll.rep {ds : List D} {vs : List V} (r : RepAll w ps H vs ds) : ∀ n : Nat, RepAll w ps H (List.replicate n vs).flatten (List.replicate n ds).flatten
  | 0 => .nil
  | n + 1 => by
    rw [List.replicate_succ, List.replicate_succ, List.flatten_cons, List.flatten_cons]
    exact r.append (r.rep n)
end
section
variable {X : Cx} {pins : List (Addr × Obj)} {σ : L2.St} {H : Hp} {s : Shared} {l : Addr} {xs : List V}
theorem lstR (I : Inv X pins σ H s) (h : Rd H l (.lst xs)) : xs.length ≤ sizeLine ∧ ∃ (its : List Value) (n : Nat), Vals xs its ∧ xs.length = its.length ∧ s.heap.get? l = some { cls := .type "list", data := .seq its.toArray n } := by
  obtain ⟨z, its, n, r, e⟩ := h.ok I.hok
  exact ⟨z, its, n, r, r.length, e⟩
end
section
variable {X : Cx}
/-- list + list, whatever may be read -/
theorem op_catR : OpR X (binaryOp .Add) (fun x y H Q => ∃ l b xs zs, x = .ref l ∧ y = .ref b ∧ Rd H l (.lst xs) ∧ Rd H b (.lst zs) ∧ xs.length + zs.length ≤ sizeLine ∧ ∀ p, H p = none → Q (.ref p) (upd H p (.lst (xs ++ zs)))) := by
  intro pins s σ H x y v u Q I rx ry h
  obtain ⟨l, b, xs, zs, rfl, rfl, hH, hB, hz, q⟩ := h
  cases rx
  cases ry
  obtain ⟨z, its, n, r, hl, e⟩ := lstR I hH
  obtain ⟨z2, its2, n2, r2, hl2, e2⟩ := lstR I hB
  refine PySem.P.add_list e e2 ?_ (by rw [List.size_toArray, List.size_toArray]; omega)
  have ea : its.toArray ++ its2.toArray = (its ++ its2).toArray := by simp
  rw [ea]
  exact ⟨.ref _, _, I.lnew (t' := s.toks) (r.append r2) (by rw [List.length_append]; omega), rfl, q _ I.fresh⟩
/-- list * n -/
theorem op_repR : OpR X (binaryOp .Mult) (fun x y H Q => ∃ l k xs, x = .ref l ∧ y = .int k ∧ Rd H l (.lst xs) ∧ -(2 ^ 63) ≤ k ∧ k < 2 ^ 63 ∧ xs.length * k.toNat ≤ sizeLine ∧
    ∀ p, H p = none → Q (.ref p) (upd H p (.lst (List.replicate k.toNat xs).flatten))) := by
  intro pins s σ H x y v u Q I rx ry h
  obtain ⟨l, k, xs, rfl, rfl, hH, h1, h2, hz, q⟩ := h
  cases rx
  obtain ⟨t, rfl⟩ := ry
  obtain ⟨z, its, n, r, hl, e⟩ := lstR I hH
  have hlen : its.toArray.size * k.toNat ≤ sizeLine := by rw [List.size_toArray, ← hl]; exact hz
  have hcap : ¬ its.toArray.size * k.toNat > (2 ^ 63 - 1) / 8 := by
    have : (sizeLine : Nat) ≤ (2 ^ 63 - 1) / 8 := by decide
    omega
  have hfit : ¬ (!Builtin.List.listFitsIndex k) = true := by
    rw [fitsIndex_both h1 h2]
    exact Bool.false_ne_true
  have hlong : ¬ Builtin.List.listTooLong (its.toArray.size * k.toNat) = true := by
    rw [notLongL hlen]
    exact Bool.false_ne_true
  have hnew : List.foldl (fun x1 x2 => x1 ++ x2) #[] (List.replicate (if its.toArray.isEmpty = true then 0 else k.toNat) its.toArray) = (List.replicate k.toNat its).flatten.toArray := by
    have f0 : ∀ m : Nat, List.foldl (fun x1 x2 => x1 ++ x2) #[] (List.replicate m its.toArray) = (List.replicate m its).flatten.toArray := fun m => by
      have := foldl_rep its m []
      rw [List.nil_append] at this
      exact this
    rw [f0]
    cases its with
    | nil => simp
    | cons a r' => rw [if_neg (by simp)]
  refine wpAny_binaryOp_repeat_ref (T := "list") (U := "int") (by decide) ⟨_, e, rfl⟩ (fun s' => typeIs_int s' k t) noFill_list_mul F.fills_int_mul F.slot_int_rmul repeat_list F.slot_int_index.lookup
    (call_meets F.slot_int_rmul (typeIs_int s k t) F.entry_int_rmul (F.args_int_rmul_2 _ _) (int___rmul___int_list k t l its.toArray n)
      ⟨e, rfl, ⟨_, e, rfl⟩, call_meets F.slot_list_mul ⟨_, e, rfl⟩ F.entry_list_mul (F.args_list_mul_2 _ _) (AutoListH.list___mul___list_int_3 l its.toArray n k t hfit hcap hlong) ⟨e, ?_⟩⟩)
  rw [hnew]
  exact ⟨.ref _, _, I.lnew (t' := s.toks) (r.rep k.toNat) (by rw [PyProof.Rows.lm_len_rep_flat, Nat.mul_comm]; exact hz), rfl, q _ I.fresh⟩
end

/-! ### operators by data -/
def rBin (w : Wd) (op : Op) : R2 := fun x y H Q => ∃ ps S H1 da db d, RepM w ps 1 H1 H x da ∧ RepM w ps 1 H1 H y db ∧ StOk w ps S H ∧ binD op da db = some d ∧ Ret w ps 3 Q d S H
section
variable {w : Wd} {X : Cx}
theorem new_lst {ps : Option Addr} {S : Sx} {H : Hp} {Q : VK} {ds : List D} {vs : List V} (h : Ret w ps 3 Q (.lst ds) S H) (st : StOk w ps S H) (r : RepAll w ps H vs ds) : ∀ p, H p = none → Q (.ref p) (upd H p (.lst vs)) := fun p hp =>
  h.new st hp (.inr ⟨p, vs, ds, rfl, rfl, st.ne hp, hp, upd_same, r.mono (kd_upd hp)⟩)
theorem new_tup {ps : Option Addr} {S : Sx} {H : Hp} {Q : VK} {ds : List D} {vs : List V} (h : Ret w ps 3 Q (.tup ds) S H) (st : StOk w ps S H) (r : RepAll w ps H vs ds) : ∀ p, H p = none → Q (.ref p) (upd H p (.tup vs)) := fun p hp =>
  h.new st hp (.tup3 (.tup upd_same (r.mono (kd_upd hp))))
theorem opr_bin (hK : X.K = w.K) {op : Op} {o : Operator} (ho : opB op o = true) : OpR X (binaryOp o) (rBin w op) := by
  intro pins s σ H x y v u Q I rx ry h
  obtain ⟨ps, S, H1, da, db, d, ra, rb, st, e, q⟩ := h
  cases op <;> cases o <;> first | (cases ho; done) | skip
  · -- add
    have e' : addD da db = some d := e
    unfold addD at e'
    split at e'
    · cases e'
      rw [intOf ra] at rx
      rw [intOf rb] at ry
      exact op_add pins s σ H _ _ v u Q I rx ry ⟨_, _, rfl, rfl, q _ H Keep.refl st .int3⟩
    · rename_i a b
      split at e'
      · rename_i hl
        cases e'
        have sa := tupSame ra
        have sb := tupSame rb
        obtain ⟨p1, vs, rfl, h1, r1⟩ := tupOf ra
        obtain ⟨p2, us, rfl, h2, r2⟩ := tupOf rb
        rw [← hK] at h1 h2
        refine op_catA pins s σ H _ _ v u Q I rx ry ⟨p1, p2, vs, us, rfl, rfl, h1, h2, by rw [r1.length, r2.length]; exact hl, fun e1 => ?_, fun _ e2 => ?_, fun _ _ => new_tup q st (r1.append r2)⟩
        · subst e1
          cases r1
          exact q _ H Keep.refl st (.tup3 sb)
        · subst e2
          cases r2
          rw [List.append_nil] at q
          exact q _ H Keep.refl st (.tup3 sa)
      · cases e'
    · split at e'
      · rename_i hl
        cases e'
        obtain ⟨p1, vs, rfl, h1, r1⟩ := lstOf ra
        obtain ⟨p2, us, rfl, h2, r2⟩ := lstOf rb
        exact op_catR pins s σ H _ _ v u Q I rx ry ⟨p1, p2, vs, us, rfl, rfl, h1, h2, by rw [r1.length, r2.length]; exact hl, new_lst q st (r1.append r2)⟩
      · cases e'
    · split at e'
      · rename_i hl
        cases e'
        rw [strOf ra] at rx
        rw [strOf rb] at ry
        exact op_add_str pins s σ H _ _ v u Q I rx ry ⟨_, _, rfl, rfl, hl, q _ H Keep.refl st .str3⟩
      · cases e'
    · cases e'
  · -- sub
    have e' : subD da db = some d := e
    unfold subD at e'
    split at e'
    · cases e'
      rw [intOf ra] at rx
      rw [intOf rb] at ry
      exact op_sub pins s σ H _ _ v u Q I rx ry ⟨_, _, rfl, rfl, q _ H Keep.refl st .int3⟩
    · cases e'
  · -- mul
    have e' : mulD da db = some d := e
    unfold mulD at e'
    split at e'
    · split at e'
      · rename_i hc
        cases e'
        rw [intOf ra] at rx
        rw [intOf rb] at ry
        exact op_mul pins s σ H _ _ v u Q I rx ry ⟨_, _, rfl, rfl, hc, q _ H Keep.refl st .int3⟩
      · cases e'
    · split at e'
      · rename_i hc
        cases e'
        obtain ⟨p1, vs, rfl, h1, r1⟩ := lstOf ra
        rw [intOf rb] at ry
        exact op_repR pins s σ H _ _ v u Q I rx ry ⟨p1, _, vs, rfl, rfl, h1, by omega, hc.2.1, by rw [r1.length]; exact hc.2.2, new_lst q st (r1.rep _)⟩
      · cases e'
    · cases e'
  · -- fdiv
    have e' : divD da db = some d := e
    unfold divD at e'
    split at e'
    · split at e'
      · rename_i hc
        cases e'
        rw [intOf ra] at rx
        rw [intOf rb] at ry
        exact op_fdiv pins s σ H _ _ v u Q I rx ry ⟨_, _, rfl, rfl, hc, q _ H Keep.refl st .int3⟩
      · cases e'
    · cases e'
  · -- mod
    have e' : modD da db = some d := e
    unfold modD at e'
    split at e'
    · split at e'
      · rename_i hc
        cases e'
        rw [intOf ra] at rx
        rw [intOf rb] at ry
        exact op_mod pins s σ H _ _ v u Q I rx ry ⟨_, _, rfl, rfl, hc, q _ H Keep.refl st .int3⟩
      · cases e'
    · cases e'
end
end Pu

/-! ======== Pu6 ======== -/
namespace Pu
open PySem PySem.Spec PyProof.Rows L2
section
variable {w : Wd} {W : XK} {X : Cx} {pos : Pos} {m : Md} {l r t : Expr} {da db dc : Rho → Sx → R D}
theorem ok_bin (hK : X.K = w.K) {op : Op} {o : Operator} (ho : opB op o = true) (hm : m < 3) (ha : PE X l (tE w W 1 da)) (hb : PE X r (tE w W 1 db)) :
    PE X (.BinOp l o r pos) (tE w W m fun ρ S => natM m ((da ρ S).bind fun x S => (db ρ S).bind fun y S => R.of S (binD op x y))) := by
  refine peNat (de := fun ρ S => (da ρ S).bind fun x S => (db ρ S).bind fun y S => R.of S (binD op x y)) (peImp (pe_op (opr_bin hK ho) ha hb) ?_) m hm
  rintro σ H Q ⟨ps, H0, ρ, S, env, st, q⟩
  exact ⟨ps, H0, ρ, S, env, st, step Ret.mon q fun d S1 v H1 k1 st1 r1 q1 => ⟨ps, H0, ρ, S1, env.mono k1, st1, step Ret.mon q1 fun d2 S2 u H2 k2 st2 r2 q2 => by
    obtain ⟨d3, e, q3⟩ := R.of_st q2
    exact ⟨ps, S2, H1, d, d2, d3, r1.mono (by decide) k2, r2, st2, e, q3⟩⟩⟩
/-- comparisons by data -/
def rCmp (w : Wd) (c : Cm) : R2 := fun x y H Q => ∃ ps S H1 da db d, RepM w ps 1 H1 H x da ∧ RepM w ps 1 H1 H y db ∧ StOk w ps S H ∧ cmpD c da db = some d ∧ Ret w ps 0 Q d S H
theorem sameD_some {a b : D} {c : Bool} (h : sameD a b = some c) : SeqAt.shaped a.py = true ∧ SeqAt.shaped b.py = true ∧ c = PyData.eqv a.py b.py := by
  unfold sameD at h
  split at h
  · rename_i e
    rw [Bool.and_eq_true] at e
    cases h
    exact ⟨e.1, e.2, rfl⟩
  · cases h
theorem memD_some {a : D} {ds : List D} {c : Bool} (h : memD a ds = some c) : SeqAt.shaped a.py = true ∧ PyData.canLayAll0 (D.pys ds) = true ∧ c = (D.pys ds).any fun y => PyData.eqv y a.py := by
  unfold memD at h
  split at h
  · rename_i e
    rw [Bool.and_eq_true] at e
    cases h
    exact ⟨e.1, SeqAt.canLay_of_shaped e.2, rfl⟩
  · cases h
theorem inD_run (hK : X.K = w.K) (hu : X.A.units + 65 < cLine) {ps : Option Addr} {H1 H : Hp} {x y : V} {a b : D} {c : Bool} (ra : RepM w ps 1 H1 H x a) (rb : RepM w ps 1 H1 H y b) (e : inD a b = some c)
    {pins : List (Addr × Obj)} {s : Shared} {σ : L2.St} {v u : Value} {Q Q' : Value → Shared → Prop} (I : Inv X pins σ H s) (rx : RelV x v) (ry : RelV y u) :
    (Q (.bool c) s → wpAny (model X.prog X.w) X.A (compareOp .In v u) Q X.xe s) ∧ (Q' (.bool (!c)) s → wpAny (model X.prog X.w) X.A (compareOp .NotIn v u) Q' X.xe s) := by
  have key : ∀ ds : List D, memD a ds = some c → (b = .tup ds ∨ b = .lst ds) → (Q (.bool c) s → wpAny (model X.prog X.w) X.A (compareOp .In v u) Q X.xe s) ∧ (Q' (.bool (!c)) s → wpAny (model X.prog X.w) X.A (compareOp .NotIn v u) Q' X.xe s) := fun ds e hb => by
    obtain ⟨h1, h2, rfl⟩ := memD_some e
    have hl := SeqAt.canLay_of_shaped h1
    have hd := SeqAt.depth_of_shaped h1
    obtain ⟨as, r1⟩ := Dp.reads I _ x v (by rw [hK]; exact dpOf ra hl) rx
    have hroom : X.A.units + 1 + min (PyData.depthAll (D.pys ds)) a.py.depth < cLine := by
      have h2 : min (PyData.depthAll (D.pys ds)) a.py.depth ≤ a.py.depth := Nat.min_le_right _ _
      omega
    rcases hb with rfl | rfl
    · obtain ⟨bs, r2⟩ := Dp.reads I (.tuple (D.pys ds)) y u (by rw [hK]; exact dpOf rb h2) ry
      exact ⟨fun q => SeqAt.in_tuple_reads r2 r1 h2 hl hroom q, fun q => SeqAt.notIn_tuple_reads r2 r1 h2 hl hroom q⟩
    · obtain ⟨bs, r2⟩ := Dp.reads I (.list (D.pys ds)) y u (by rw [hK]; exact dpOf rb h2) ry
      exact ⟨fun q => SeqAt.in_list_reads r2 r1 h2 hl hroom q, fun q => SeqAt.notIn_list_reads r2 r1 h2 hl hroom q⟩
  cases b with
  | tup ds => exact key ds e (.inl rfl)
  | lst ds => exact key ds e (.inr rfl)
  | _ => cases e
theorem opr_cmp (hK : X.K = w.K) (hu : X.A.units + 66 < cLine) {c : Cm} {o : CmpOp} (ho : cmB c o = true) : OpR X (compareOp o) (rCmp w c) := by
  intro pins s σ H x y v u Q I rx ry h
  obtain ⟨ps, S, H1, da, db, d, ra, rb, st, e, q⟩ := h
  have fin : ∀ b : Bool, d = .bl b → EP X pins σ Q (.bool b) s := fun b eb => ⟨.bl b, H, I, rfl, by subst eb; exact q _ H Keep.refl st (Rep.bl b)⟩
  cases c <;> cases o <;> first | (cases ho; done) | skip
  · have e' : (sameD da db).map D.bl = some d := e
    cases hs : sameD da db with
    | none => rw [hs] at e'; cases e'
    | some b =>
      rw [hs] at e'
      cases e'
      obtain ⟨h1, h2, rfl⟩ := sameD_some hs
      obtain ⟨as, r1⟩ := Dp.reads I _ x v (by rw [hK]; exact dpOf ra (SeqAt.canLay_of_shaped h1)) rx
      obtain ⟨bs, r2⟩ := Dp.reads I _ y u (by rw [hK]; exact dpOf rb (SeqAt.canLay_of_shaped h2)) ry
      exact SeqAt.compareEq_shaped r1 r2 h1 h2 (by omega) (fin _ rfl)
  · have e' : (sameD da db).map (fun c => D.bl (!c)) = some d := e
    cases hs : sameD da db with
    | none => rw [hs] at e'; cases e'
    | some b =>
      rw [hs] at e'
      cases e'
      obtain ⟨h1, h2, rfl⟩ := sameD_some hs
      obtain ⟨as, r1⟩ := Dp.reads I _ x v (by rw [hK]; exact dpOf ra (SeqAt.canLay_of_shaped h1)) rx
      obtain ⟨bs, r2⟩ := Dp.reads I _ y u (by rw [hK]; exact dpOf rb (SeqAt.canLay_of_shaped h2)) ry
      exact SeqAt.compareNe_shaped r1 r2 h1 h2 (by omega) (fin _ rfl)
  · have e' : ltD da db = some d := e
    unfold ltD at e'
    split at e'
    · cases e'
      rw [intOf ra] at rx
      rw [intOf rb] at ry
      exact op_lt pins s σ H _ _ v u Q I rx ry ⟨_, _, rfl, rfl, q _ H Keep.refl st (Rep.bl _)⟩
    · rename_i a b
      split at e'
      · rename_i hc
        cases e'
        rw [Bool.and_eq_true, Bool.and_eq_true] at hc
        obtain ⟨⟨h1, h2⟩, h3⟩ := hc
        obtain ⟨as, r1⟩ := Dp.reads I _ x v (by rw [hK]; exact dpOf ra (SeqAt.canLay_of_shaped h1)) rx
        obtain ⟨bs, r2⟩ := Dp.reads I _ y u (by rw [hK]; exact dpOf rb (SeqAt.canLay_of_shaped h2)) ry
        exact PySem.W.rcLt_alike _ _ X.A s v u as bs r1 r2 h3 (fun z => nomatch z) (SeqAt.room_of_shaped h1 (by omega)) _ _ _ _ (fin _ rfl)
      · cases e'
    · cases e'
  · have e' : leD da db = some d := e
    unfold leD at e'
    split at e'
    · cases e'
      rw [intOf ra] at rx
      rw [intOf rb] at ry
      exact op_le pins s σ H _ _ v u Q I rx ry ⟨_, _, rfl, rfl, q _ H Keep.refl st (Rep.bl _)⟩
    · cases e'
  · have e' : gtD da db = some d := e
    unfold gtD at e'
    split at e'
    · cases e'
      rw [intOf ra] at rx
      rw [intOf rb] at ry
      exact op_gt pins s σ H _ _ v u Q I rx ry ⟨_, _, rfl, rfl, q _ H Keep.refl st (Rep.bl _)⟩
    · cases e'
  · have e' : geD da db = some d := e
    unfold geD at e'
    split at e'
    · cases e'
      rw [intOf ra] at rx
      rw [intOf rb] at ry
      exact op_ge pins s σ H _ _ v u Q I rx ry ⟨_, _, rfl, rfl, q _ H Keep.refl st (Rep.bl _)⟩
    · cases e'
  · have e' : (inD da db).map D.bl = some d := e
    cases hs : inD da db with
    | none => rw [hs] at e'; cases e'
    | some b =>
      rw [hs] at e'
      cases e'
      exact (inD_run (Q' := fun _ _ => True) hK (by omega) ra rb hs I rx ry).1 (fin _ rfl)
  · have e' : (inD da db).map (fun c => D.bl (!c)) = some d := e
    cases hs : inD da db with
    | none => rw [hs] at e'; cases e'
    | some b =>
      rw [hs] at e'
      cases e'
      exact (inD_run (Q := fun _ _ => True) hK (by omega) ra rb hs I rx ry).2 (fin _ rfl)
theorem noSet_mark {o : CmpOp} {r : Expr} (h : noSet r = true) : behindInMarks o r = false := by
  cases r <;> first | rfl | (cases h; done)
theorem im_cmp {c : Cm} : ∀ σ H Q, tE w W 0 (fun ρ S => (da ρ S).bind fun x S => (db ρ S).bind fun y S => R.of S (cmpD c x y)) σ H Q → tOp (rCmp w c) (tE w W 1 da) (tE w W 1 db) σ H Q := by
  rintro σ H Q ⟨ps, H0, ρ, S, env, st, q⟩
  exact ⟨ps, H0, ρ, S, env, st, step Ret.mon q fun d S1 v H1 k1 st1 r1 q1 => ⟨ps, H0, ρ, S1, env.mono k1, st1, step Ret.mon q1 fun d2 S2 u H2 k2 st2 r2 q2 => by
    obtain ⟨d3, e, q3⟩ := R.of_st q2
    exact ⟨ps, S2, H1, d, d2, d3, r1.mono (by decide) k2, r2, st2, e, q3⟩⟩⟩
theorem ok_cmp (hK : X.K = w.K) (hu : X.A.units + 66 < cLine) {c : Cm} {o : CmpOp} (ho : cmB c o = true) (hs : noSet r = true) (ha : PE X l (tE w W 1 da)) (hb : PE X r (tE w W 1 db)) :
    PE X (.Compare l [o] [r] pos) (tE w W m fun ρ S => onlyNew m ((da ρ S).bind fun x S => (db ρ S).bind fun y S => R.of S (cmpD c x y))) :=
  peOld (peImp (pe_cmpR (opr_cmp hK hu ho) ha hb (noSet_mark hs)) im_cmp) m
theorem ot_cmp (hK : X.K = w.K) (hu : X.A.units + 66 < cLine) {c : Cm} {o : CmpOp} (ho : cmB c o = true) (hs : noSet r = true) (ha : PE X l (tE w W 1 da)) (hb : PE X r (tE w W 1 db)) :
    PT X (.Compare l [o] [r] pos) (tT w W fun ρ S => truth (onlyNew 0 ((da ρ S).bind fun x S => (db ρ S).bind fun y S => R.of S (cmpD c x y)))) :=
  ot_of (d := fun ρ S => (da ρ S).bind fun x S => (db ρ S).bind fun y S => R.of S (cmpD c x y)) (pt_cmpR (opr_cmp hK hu ho) ha hb (noSet_mark hs)) im_cmp
/-- a < b < c -/
theorem im_chain {c1 c2 : Cm} : ∀ σ H Q, tE w W 0 (fun ρ S => (da ρ S).bind fun x S => (db ρ S).bind fun y S => (R.of S (cmpD c1 x y)).bind fun b S => match b with
      | .bl true => (dc ρ S).bind fun z S => R.of S (cmpD c2 y z)
      | .bl false => .ok (.bl false) S
      | _ => .stuck) σ H Q → tChain (rCmp w c1) (rCmp w c2) (tE w W 0 da) (tE w W 0 db) (tE w W 0 dc) σ H Q := by
  rintro σ H Q ⟨ps, H0, ρ, S, env, st, q⟩
  refine ⟨ps, H0, ρ, S, env, st, step Ret.mon q fun d S1 v H1 k1 st1 r1 q1 => ⟨ps, H0, ρ, S1, env.mono k1, st1, step Ret.mon q1 fun d2 S2 u H2 k2 st2 r2 q2 => ?_⟩⟩
  rw [Pst.bind] at q2
  obtain ⟨d3, e, q3⟩ := R.of_st q2
  refine ⟨ps, S2, H1, d, d2, d3, .inl (Rep.mono k2.kd r1), .inl r2, st2, e, fun v3 H3 k3 st3 r3 => ?_⟩
  cases d3 with
  | bl b =>
    cases r3
    refine ⟨b, rfl, ?_⟩
    have q4 := Pst.mono (F := Ret w ps 0 Q) Ret.mon k3 q3
    cases b with
    | false => exact q4 _ H3 Keep.refl st3 (Rep.bl _)
    | true => exact ⟨ps, H0, ρ, S2, (env.mono (k1.trans (k2.trans k3))), st3, step Ret.mon q4 fun d4 S4 v4 H4 k4 st4 r4 q5 => by
        obtain ⟨d5, e5, q6⟩ := R.of_st q5
        exact ⟨ps, S4, H1, d2, d4, d5, .inl (Rep.mono (k3.trans k4).kd r2), .inl r4, st4, e5, q6⟩⟩
  | _ => exact q3.elim
theorem ok_chain (hK : X.K = w.K) (hu : X.A.units + 66 < cLine) {c1 c2 : Cm} {o1 o2 : CmpOp} (h1 : cmB c1 o1 = true) (h2 : cmB c2 o2 = true) (hs2 : noSet t = true) (ha : PE X l (tE w W 0 da)) (hb : PE X r (tE w W 0 db)) (hc : PE X t (tE w W 0 dc)) :
    PE X (.Compare l [o1, o2] [r, t] pos) (tE w W m fun ρ S => onlyNew m ((da ρ S).bind fun x S => (db ρ S).bind fun y S => (R.of S (cmpD c1 x y)).bind fun b S => match b with
      | .bl true => (dc ρ S).bind fun z S => R.of S (cmpD c2 y z)
      | .bl false => .ok (.bl false) S
      | _ => .stuck)) :=
  peOld (peImp (pe_chain (opr_cmp hK hu h1) (opr_cmp hK hu h2) ha hb hc (noSet_mark hs2)) im_chain) m
theorem ot_chain (hK : X.K = w.K) (hu : X.A.units + 66 < cLine) {c1 c2 : Cm} {o1 o2 : CmpOp} (h1 : cmB c1 o1 = true) (h2 : cmB c2 o2 = true) (hs2 : noSet t = true) (ha : PE X l (tE w W 0 da)) (hb : PE X r (tE w W 0 db)) (hc : PE X t (tE w W 0 dc)) :
    PT X (.Compare l [o1, o2] [r, t] pos) (tT w W fun ρ S => truth (onlyNew 0 ((da ρ S).bind fun x S => (db ρ S).bind fun y S => (R.of S (cmpD c1 x y)).bind fun b S => match b with
      | .bl true => (dc ρ S).bind fun z S => R.of S (cmpD c2 y z)
      | .bl false => .ok (.bl false) S
      | _ => .stuck))) :=
  ot_of (d := fun ρ S => (da ρ S).bind fun x S => (db ρ S).bind fun y S => (R.of S (cmpD c1 x y)).bind fun b S => match b with
      | .bl true => (dc ρ S).bind fun z S => R.of S (cmpD c2 y z)
      | .bl false => .ok (.bl false) S
      | _ => .stuck) (pt_chain (opr_cmp hK hu h1) (opr_cmp hK hu h2) ha hb hc (noSet_mark hs2)) im_chain
/-- -a -/
theorem ok_neg (ha : PE X l (tE w W 0 da)) : PE X (.UnaryOp .USub l pos) (tE w W m fun ρ S => onlyNew m ((da ρ S).bind fun x S => match x with | .int i => .ok (.int (-i)) S | _ => .stuck)) := by
  refine peOld (peImp (pe_un un_neg ha) ?_) m
  rintro σ H Q ⟨ps, H0, ρ, S, env, st, q⟩
  refine ⟨ps, H0, ρ, S, env, st, step Ret.mon q fun d S1 v H1 k1 st1 r1 q1 => ?_⟩
  cases d with
  | int i =>
    cases r1
    exact ⟨i, rfl, q1 _ H1 Keep.refl st1 (Rep.int _)⟩
  | _ => exact q1.elim
/-- a is None, a is not None -/
theorem rep_non {ps : Option Addr} {H : Hp} {v : V} {d : D} (r : Rep w ps H v d) : decide (v = .non) = (match d with | .non => true | _ => false) := by
  cases r <;> first | rfl | (exact decide_eq_false (fun h => nomatch h))
def isNd (n : Bool) (da : Rho → Sx → R D) : Rho → Sx → R D := fun ρ S => (da ρ S).bind fun x S => .ok (.bl (match x with | .non => !n | _ => n)) S
theorem im_isN : ∀ σ H Q, tE w W 0 (isNd false da) σ H Q → tIsN (tE w W 0 da) σ H Q := by
  rintro σ H Q ⟨ps, H0, ρ, S, env, st, q⟩
  refine ⟨ps, H0, ρ, S, env, st, step Ret.mon q fun d S1 v H1 k1 st1 r1 q1 => ?_⟩
  rw [rep_non r1]
  cases d <;> exact q1 _ H1 Keep.refl st1 (Rep.bl _)
theorem im_notN : ∀ σ H Q, tE w W 0 (isNd true da) σ H Q → tNotN (tE w W 0 da) σ H Q := by
  rintro σ H Q ⟨ps, H0, ρ, S, env, st, q⟩
  refine ⟨ps, H0, ρ, S, env, st, step Ret.mon q fun d S1 v H1 k1 st1 r1 q1 => ?_⟩
  rw [rep_non r1]
  cases d <;> exact q1 _ H1 Keep.refl st1 (Rep.bl _)
theorem ok_isN {n : Bool} {o : CmpOp} {j : Nat} {p2 : Pos} (ho : (match o with | .Is => !n | .IsNot => n | _ => false) = true) (ha : PE X l (tE w W 0 da)) :
    PE X (.Compare l [o] [.Constant .none j p2] pos) (tE w W m fun ρ S => onlyNew m (isNd n da ρ S)) := by
  cases o <;> first | (cases ho; done) | skip
  · cases n
    · exact peOld (peImp (pe_cmp (pc_isN ha) rfl) im_isN) m
    · cases ho
  · cases n
    · cases ho
    · exact peOld (peImp (pe_cmp (pc_notN ha) rfl) im_notN) m
theorem ot_isN {n : Bool} {o : CmpOp} {j : Nat} {p2 : Pos} (ho : (match o with | .Is => !n | .IsNot => n | _ => false) = true) (ha : PE X l (tE w W 0 da)) :
    PT X (.Compare l [o] [.Constant .none j p2] pos) (tT w W fun ρ S => truth (onlyNew 0 (isNd n da ρ S))) := by
  cases o <;> first | (cases ho; done) | skip
  · cases n
    · exact ot_of (d := isNd false da) (pt_cmp (pc_isN ha) rfl) im_isN
    · cases ho
  · cases n
    · cases ho
    · exact ot_of (d := isNd true da) (pt_cmp (pc_notN ha) rfl) im_notN
end
end Pu

/-! ======== Pu6b ======== -/
/-! sorting tuples, an empty one may be among them -/
namespace Pu
open PySem PySem.W PySem.Calls PySem.SeqAt PyProof.Rows
section
variable {A : Around} {s : Shared}
theorem call_tuple_lt {prog : Program} {w : World} {E : Value → Shared → Prop} {Q : Value → Shared → Prop} {l b : Addr} {items items2 : Array Value} {e r : Nat → Bool} (hl : s.heap.IsTuple l items) (hb : s.heap.IsTuple b items2)
    (he : ∀ j (h1 : j < items.size) (h2 : j < items2.size), EqAt A.in1 s items[j] items2[j] (e j)) (hr : ∀ j (h1 : j < items.size) (h2 : j < items2.size), e j = false → RcLt A.in1 s items[j] items2[j] (r j))
    (h : Q (.bool (firstLt e r (decide (items.size < items2.size)) (List.range (min items.size items2.size)))) s) : wpAny (model prog w) A (call (.builtin "tuple.__lt__") [.ref l, .ref b]) Q E s := by
  obtain ⟨⟨cls, dd, data, sl⟩, ho, hc, n, hd⟩ := id hl
  obtain ⟨⟨cls2, dd2, data2, sl2⟩, ho2, hc2, n2, hd2⟩ := id hb
  simp only at hc hd hc2 hd2
  subst hc hd hc2 hd2
  exact call_meets F.slot_tuple_lt ⟨_, ho, rfl⟩ F.entry_tuple_lt (F.args_tuple_lt_2 _ _) (tuple_ltAt l b items items2 n n2 dd dd2 sl sl2 e r) ⟨ho, ho2, he, hr, h⟩
variable {prog : Program} {w : World} {E : Value → Shared → Prop}
theorem oneLt_tup {xs ys : List PyData} {a b : Value} {as bs : List Addr} {Q : Bool → Shared → Prop} (ra : Reads s.heap a (.tuple xs) as) (rb : Reads s.heap b (.tuple ys) bs) (h : alike (.tuple xs) (.tuple ys) = true)
    (hu : A.units + min (PyData.depth (.tuple xs)) (PyData.depth (.tuple ys)) < cLine) (hq : Q (dataLt (.tuple xs) (.tuple ys)) s) : wpAny (model prog w) A (oneLt' true a b) Q E s := by
  have hal : alikeAll xs ys = true := by simpa [alike] using h
  cases ra with
  | @tuple l o vs n _ as₁ h1 h2 h3 h4 =>
    cases rb with
    | @tuple l' o' vs' n' _ bs₁ k1 k2 k3 k4 =>
      have n1 : vs.size = xs.length := by simpa using ReadsAll.length _ _ _ h4
      have n2 : vs'.size = ys.length := by simpa using ReadsAll.length _ _ _ k4
      rw [dataLt_tuple, ← firstLt_toks xs ys hal, ← n1, ← n2] at hq
      rw [oneLt'_eq]
      simp only [if_true]
      refine wpAny_bind (wpAny_cRoomFor (room_here hu) ?_)
      refine wpAny_bind (wpAny_callSpecialIfBound?_slot (T := "tuple") ⟨_, h1, h2⟩ F.slot_tuple_lt (call_tuple_lt (e := pairEq xs ys) (r := fun j => dataLt (xs.getD j .none) (ys.getD j .none)) ⟨_, h1, h2, _, h3⟩ ⟨_, k1, k2, _, k3⟩ (fun j j1 j2 => ?_) (fun j j1 j2 hj => ?_) ?_))
      · have := eqAt_alikeAll xs ys A.in1 s vs.toList vs'.toList _ _ h4 k4 hal (room_in hu) j (by simpa using j1) (by simpa using j2)
        simpa using this
      · have := rcLt_alikeAll xs ys A.in1 s vs.toList vs'.toList _ _ h4 k4 hal (room_in hu) j (by simpa using j1) (by simpa using j2) hj
        simpa using this
      · exact wpAny_truthy_bool hq
theorem tup_firsts : ∀ {vs : List Value} {ds : List PyData}, EachIs (fun v d => ∃ as, Reads s.heap v d as) vs ds → (∀ d, d ∈ ds → ∃ r, d = .tuple r) → ∃ fs : List (Option Value), EachIs (fun f d => (f = none ↔ d = .tuple [])) fs ds ∧
    ∀ (M : Model) (A : Around) (E : Value → Shared → Prop) (Q : List (Option Value) → Shared → Prop), Q fs s → wpAny M A (vs.mapM firstOfTuple') Q E s
  | _, _, .nil, _ => ⟨[], .nil, fun M A E Q h => by rw [List.mapM_nil]; exact wpAny_pure h⟩
  | _, _, .cons (b := d) ⟨as, r⟩ t, ht => by
    obtain ⟨fs, h1, h2⟩ := tup_firsts t fun d hd => ht d (List.mem_cons_of_mem _ hd)
    obtain ⟨rest, rfl⟩ := ht d (List.mem_cons_self ..)
    cases r with
    | @tuple a o xs n _ _ ho hc hd hr =>
      have hlen := SeqAt.ReadsAll.length _ _ _ hr
      refine ⟨xs[0]? :: fs, .cons ?_ h1, fun M A E Q h => ?_⟩
      · rw [Array.getElem?_eq_none_iff]
        constructor
        · intro hz
          have : xs.toList.length = 0 := by rw [Array.length_toList]; omega
          rw [this] at hlen
          rw [List.length_eq_zero_iff.mp hlen.symm]
        · intro e
          injection e with e
          rw [e] at hlen
          rw [← Array.length_toList, hlen]; exact Nat.le_refl _
      · rw [List.mapM_cons]
        refine wpAny_bind ?_
        rw [kas_first_eq]
        refine wpAny_bind (Looks.here (show Looks M s.heap (typeOf (.ref a)) o.cls from (Looks.ld ho).andThen .now) ?_)
        rw [hc, if_neg (by first | decide | simp)]
        refine wpAny_bind (listItems_at ho hd (wpAny_pure ?_))
        exact wpAny_bind (h2 M A E _ (wpAny_pure h))
theorem each_right {α β : Type} {R : α → β → Prop} : ∀ {as : List α} {bs : List β}, EachIs R as bs → ∀ b ∈ bs, ∃ a ∈ as, R a b
  | _, _, .nil, b, hb => by cases hb
  | _, _, .cons h t, b, hb => by
    rcases List.mem_cons.mp hb with rfl | hb
    · exact ⟨_, List.mem_cons_self, h⟩
    · obtain ⟨a, ha, r⟩ := each_right t b hb
      exact ⟨a, List.mem_cons_of_mem _ ha, r⟩
def Sortable' (ds : List PyData) : Prop := (∀ d, d ∈ ds → ∃ r, d = .tuple r) ∨ ∀ d, d ∈ ds → d ≠ .none ∧ ∀ xs, d ≠ .tuple xs
theorem sortsAt_data {vs : List Value} {ds : List PyData} (e : EachIs (fun v d => ∃ as, Reads s.heap v d as) vs ds) (hal : AllAlike ds) (hk : Sortable' ds) (hu : ∀ d, d ∈ ds → A.units + d.depth < cLine) : SortsAt prog w A s (dataKind s.heap ds) vs := by
  rcases hk with ht | hn
  case inr => exact SortsAt.data e hal (.inr hn) hu
  by_cases hz : ∀ d, d ∈ ds → d ≠ .tuple []
  · refine SortsAt.data e hal (.inl fun d hd => ?_) hu
    obtain ⟨r, rfl⟩ := ht d hd
    cases r with
    | nil => exact absurd rfl (hz _ hd)
    | cons x r => exact ⟨x, r, rfl⟩
  have room : ∀ {d d' : PyData}, d ∈ ds → A.units + min d.depth d'.depth < cLine := fun {d d'} hd => Nat.lt_of_le_of_lt (Nat.add_le_add_left (Nat.min_le_left _ _) _) (hu d hd)
  refine ⟨fun v hv => ?_, ?_⟩
  · obtain ⟨d, hd, as, r⟩ := e.left v hv
    exact ⟨_, dataKind_some hal hd r⟩
  obtain ⟨fs, h1, h2⟩ := tup_firsts e ht
  have hsome : ¬ (fs.toArray.all fun x => x.isSome) = true := fun ha => hz fun d hd e0 => by
    rw [List.all_toArray, List.all_eq_true] at ha
    obtain ⟨f, hf, h⟩ := each_right h1 d hd
    have := ha f hf
    rw [h.mpr e0] at this
    exact absurd this (by decide)
  have hT : ∀ {M : Model}, ∀ v ∈ vs, Looks M s.heap (typeOf v) (.type "tuple") := fun v hv => by
    obtain ⟨d, hd, as, r⟩ := e.left v hv
    obtain ⟨rr, rfl⟩ := ht d hd
    exact looks_reads r
  by_cases h0 : ∃ f fr, fs = some f :: fr
  · obtain ⟨f, fr, rfl⟩ := h0
    refine ⟨general', ?_, fun h2l E Q hq => ?_⟩
    · intro E x y a b Q ha hb hq
      obtain ⟨d, as, hd, ra, rfl⟩ := dataKind_inv ha
      obtain ⟨d', as', hd', rb, rfl⟩ := dataKind_inv hb
      show wpAny _ _ (oneLt' false x y) _ _ _
      exact oneLt_alike (fun h => by cases h) ra rb (hal d hd d' hd') (fun e0 => by
        obtain ⟨r, e1⟩ := ht d hd
        rw [e0] at e1; cases e1) (room hd) hq
    · rw [keyKind'_eq, List.mapM_toArray, map_eq_pure_bind]
      refine wpAny_bind (wpAny_bind (h2 _ _ _ _ (wpAny_pure ?_)))
      rw [if_neg hsome, if_pos (by simp)]
      exact wpAny_pure hq
  · refine ⟨oneType', ?_, fun h2l E Q hq => ?_⟩
    · intro E x y a b Q ha hb hq
      obtain ⟨d, as, hd, ra, rfl⟩ := dataKind_inv ha
      obtain ⟨d', as', hd', rb, rfl⟩ := dataKind_inv hb
      rw [keyLt'_oneType]
      have hr := room (d' := d') hd
      have hdd := hal d hd d' hd'
      obtain ⟨r, rfl⟩ := ht d hd
      obtain ⟨r', rfl⟩ := ht d' hd'
      exact oneLt_tup ra rb hdd hr hq
    · rw [keyKind'_eq, List.mapM_toArray, map_eq_pure_bind]
      refine wpAny_bind (wpAny_bind (h2 _ _ _ _ (wpAny_pure ?_)))
      have hno : ¬ ((fs.toArray[0]?.bind id).isSome) = true := by
        cases fs with
        | nil => simp
        | cons f fr =>
          cases f with
          | none => simp
          | some f => exact absurd ⟨f, fr, rfl⟩ h0
      rw [if_neg hsome, if_neg hno]
      rw [oneTypeOnly'_eq, List.mapM_toArray, map_eq_pure_bind]
      refine wpAny_bind (wpAny_bind (wpAny_bind (kas_mapM (r := .type "tuple") _ (fun v hv Q' hq => (hT v hv).here hq) (wpAny_pure ?_))))
      obtain ⟨v₁, rest, rfl⟩ : ∃ v₁ rest, vs = v₁ :: rest := by
        match vs, h2l with
        | v₁ :: rest, _ => exact ⟨v₁, rest, rfl⟩
      have hall : ((List.map (fun _ => Value.type "tuple") (v₁ :: rest)).toArray.all fun x => x == Value.type "tuple") = true := by
        simp only [List.all_toArray, List.all_map, List.all_eq_true]
        intro _ _
        rfl
      have h0' : (List.map (fun _ => Value.type "tuple") (v₁ :: rest)).toArray[0]? = some (Value.type "tuple") := by simp
      rw [h0']
      simp only [hall, if_true]
      exact wpAny_pure (wpAny_pure hq)
variable {β : Type} {vs : List Value} {bs : List β} {enc : β → PyData} {R : Value → β → Prop}
theorem sorted_data' {l : Addr} {Q : Value → Shared → Prop} (hl : s.heap.IsList l vs.toArray) (e : EachIs R vs bs) (er : EachIs (fun v b => ∃ as, Reads s.heap v (enc b) as) vs bs) (hal : AllAlike (bs.map enc)) (hk : Sortable' (bs.map enc)) (hL : bs.length ≤ sizeLine)
    (hu : ∀ b, b ∈ bs → A.units + 2 + (enc b).depth < cLine) (h : ∀ out, out.length = bs.length → EachIs R out (bs.mergeSort (dataLe false enc)) → Q (.ref (s.heap.objs.size + 1)) { s with heap := sortedAll s.heap vs (List.toArray out) }) :
    wpAny (model prog w) A (call (.builtin "sorted") [.ref l]) Q E s := by
  have er' : EachIs (fun v b => ∃ as, Reads (sortingHeap (copyHeap s.heap vs) (s.heap.objs.size + 1) vs) v (enc b) as) vs bs := er.mono fun _ _ ⟨as, r⟩ => ⟨as, PyProof.Rows.Reads.keeps (fun _ _ => sorting_copy_old) r⟩
  exact sorted_vals hl (sortsAt_data (A := A.in1.in1) (s := { s with heap := sortingHeap (copyHeap s.heap vs) (s.heap.objs.size + 1) vs }) (each_map (R := fun v d => ∃ as, Reads (sortingHeap (copyHeap s.heap vs) (s.heap.objs.size + 1) vs) v d as) enc er') hal hk (bound_map hu)) (by rw [e.length]; exact hL)
    (h _ (by rw [sortVals_length false rfl]; exact e.length) (sortVals_data false e er' hal))
/-- sorted(t), t a tuple -/
theorem collect_tuple {l : Addr} {vs : List Value} {Q : List Value → Shared → Prop} (hl : s.heap.IsTuple l vs.toArray)
    (h : Q vs { s with heap := (s.heap.push (seqObj "list" #[] 0)).update s.heap.objs.size (Obj.mapSeq (· ++ vs.toArray)) }) (hsz : vs.length ≤ sizeLine) :
    wpAny (model prog w) A (collect (.ref l)) Q E s := by
  obtain ⟨o, ho, hc, n, hd⟩ := id hl
  unfold collect
  refine wpAny_bind (wpAny_runValue (codeAny_builtin entry_proto_collect' ?_))
  show wpAny _ _ (do again (.builtin "list.__iadd__" ⟨[← newList [], .ref l], []⟩)) _ _ s
  refine wpAny_bind (wpAny_newList (wpAny_pure ⟨Code.quiet_builtin _ (by decide +kernel), codeAny_builtin entry_list_iadd' ?_⟩))
  show wpAny _ _ (Builtin.List.listExtendWith (.ref s.heap.objs.size) (.ref l) (.ref s.heap.objs.size)) _ _ { s with heap := s.heap.push (seqObj "list" #[] 0) }
  unfold Builtin.List.listExtendWith
  have ho' : (s.heap.push (seqObj "list" #[] 0)).get? l = some o := Heap.get?_push_of_some _ ho
  refine wpAny_bind (wpAny_typeOf (T := "tuple") ⟨o, ho', hc⟩ ?_)
  have ht : (Value.type "tuple" == Value.type "tuple") = true := by rfl
  rw [if_pos (by rw [ht]; simp)]
  refine wpAny_bind (listItems_at ho' hd ?_)
  refine wpAny_bind (listItems_at (xs := #[]) (n := 0) (Heap.get?_push_size _ rfl) rfl ?_)
  rw [if_neg (by simp)]
  refine wpAny_bind (listUpdate_at (xs := #[]) (n := 0) (Heap.get?_push_size _ rfl) rfl ?_ (Nat.zero_le _) (by show (#[] ++ vs.toArray).size ≤ sizeLine + 1; simp only [Array.size_append, List.size_toArray, List.length_nil]; omega))
  refine wpAny_pure ?_
  show wpAny (model prog w) A (do
      let o ← load s.heap.objs.size
      match o.data with
      | .seq xs _ => pure xs.toList
      | _ => unsupported "internal:collect") Q E { s with heap := (s.heap.push (seqObj "list" #[] 0)).update s.heap.objs.size (Obj.mapSeq (· ++ vs.toArray)) }
  refine wpAny_bind (wpAny_load (get?_update_seq (Heap.get?_push_size _ rfl) _) ?_)
  show wpAny _ _ (pure ((#[] : Array Value) ++ vs.toArray).toList) Q E _
  rw [show ((#[] : Array Value) ++ vs.toArray).toList = vs by simp]
  exact wpAny_pure h
theorem sorted_valsT {κ : PyProof.Rows.KeyKind} {l : Addr} {vs : List Value} {Q : Value → Shared → Prop} (hl : s.heap.IsTuple l vs.toArray) (S : SortsAt prog w A.in1.in1 { s with heap := sortingHeap (copyHeap s.heap vs) (s.heap.objs.size + 1) vs } κ vs) (hL : vs.length ≤ sizeLine)
    (h : Q (.ref (s.heap.objs.size + 1)) { s with heap := sortedAll s.heap vs (sortVals κ false vs vs).toArray }) : wpAny (model prog w) A (call (.builtin "sorted") [.ref l]) Q E s := by
  refine call_function_entry_kw kind_sorted plain_sorted entry_sorted (args_sorted1 _) ?_
  unfold Builtin.«sorted»
  refine wpAny_bind (m := checkCount "sorted" 1 1 _) (wpAny_pure ?_)
  refine wpAny_bind (collect_tuple hl ?_ hL)
  refine wpAny_bind (wpAny_newList ?_ hL)
  have hsz : ((s.heap.push (seqObj "list" #[] 0)).update s.heap.objs.size (Obj.mapSeq (· ++ vs.toArray))).objs.size = s.heap.objs.size + 1 := by
    rw [Heap.size_update, size_push']
  show wpAny _ _ _ _ _ { s with heap := copyHeap s.heap vs }
  rw [hsz]
  refine wpAny_bind (wpAny_holding (wpAny_call_entry_kw slot_list_sort ⟨_, copyHeap_at s.heap vs, rfl⟩ entry_list_sort ?body (args_list_sort _)))
  case body =>
    show wpAny (model prog w) A.in1.in1 (Builtin.«list.sort» ⟨[.ref (s.heap.objs.size + 1)], []⟩) _ _ _
    exact list_sort_vals (s := { s with heap := copyHeap s.heap vs }) (copyHeap_at s.heap vs) S hL ⟨_, rfl, wpAny_pure ⟨_, rfl, h⟩⟩
theorem sorted_dataT {l : Addr} {Q : Value → Shared → Prop} (hl : s.heap.IsTuple l vs.toArray) (e : EachIs R vs bs) (er : EachIs (fun v b => ∃ as, Reads s.heap v (enc b) as) vs bs) (hal : AllAlike (bs.map enc)) (hk : Sortable' (bs.map enc)) (hL : bs.length ≤ sizeLine)
    (hu : ∀ b, b ∈ bs → A.units + 2 + (enc b).depth < cLine) (h : ∀ out, out.length = bs.length → EachIs R out (bs.mergeSort (dataLe false enc)) → Q (.ref (s.heap.objs.size + 1)) { s with heap := sortedAll s.heap vs (List.toArray out) }) :
    wpAny (model prog w) A (call (.builtin "sorted") [.ref l]) Q E s := by
  have er' : EachIs (fun v b => ∃ as, Reads (sortingHeap (copyHeap s.heap vs) (s.heap.objs.size + 1) vs) v (enc b) as) vs bs := er.mono fun _ _ ⟨as, r⟩ => ⟨as, PyProof.Rows.Reads.keeps (fun _ _ => sorting_copy_old) r⟩
  exact sorted_valsT hl (sortsAt_data (A := A.in1.in1) (s := { s with heap := sortingHeap (copyHeap s.heap vs) (s.heap.objs.size + 1) vs }) (each_map (R := fun v d => ∃ as, Reads (sortingHeap (copyHeap s.heap vs) (s.heap.objs.size + 1) vs) v d as) enc er') hal hk (bound_map hu)) (by rw [e.length]; exact hL)
    (h _ (by rw [sortVals_length false rfl]; exact e.length) (sortVals_data false e er' hal))
end
end Pu

/-! ======== Pu7 ======== -/
/-! Built-ins, subscripts, slices, fields. -/
namespace Pu
open PySem PySem.Spec PyProof.Rows L2
section
variable {w : Wd} {ps : Option Addr} {H0 H : Hp} {v u : V}
theorem reps1 {vs : List V} {d : D} (r : RepsM w ps 1 H0 H vs [d]) : ∃ v, vs = [v] ∧ RepM w ps 1 H0 H v d := by
  cases r with
  | cons a b => cases b; exact ⟨_, rfl, a⟩
theorem reps2 {vs : List V} {d e : D} (r : RepsM w ps 1 H0 H vs [d, e]) : ∃ v u, vs = [v, u] ∧ RepM w ps 1 H0 H v d ∧ RepM w ps 1 H0 H u e := by
  cases r with
  | cons a b =>
    cases b with
    | cons c t => cases t; exact ⟨_, _, rfl, a, c⟩
theorem Rd.sql {K : PySem.W.Frag} {a : Addr} {vs : List V} (h : Rd H a (.lst vs)) : SqL K H a vs := .inl h
/-- values and data go together -/
theorem RepAll.each {P : V → D → Prop} (hp : ∀ v d, Rep w ps H v d → P v d) : ∀ {vs : List V} {ds : List D}, RepAll w ps H vs ds → PySem.W.EachIs P vs ds
  | _, _, .nil => .nil
  | _, _, .cons a t => .cons (hp _ _ a) (t.each hp)
def Mid (w : Wd) (ps : Option Addr) (H : Hp) (u : Value) (d : D) : Prop := ∃ v, RelV v u ∧ Rep w ps H v d
theorem mids : ∀ {vs : List V} {ds : List D} {us : List Value}, RepAll w ps H vs ds → Vals vs us → PySem.W.EachIs (Mid w ps H) us ds
  | _, _, _, .nil, .nil => .nil
  | _, _, _, .cons a t, .cons r t' => .cons ⟨_, r, a⟩ (mids t t')
theorem unmids : ∀ {ds : List D} {us : List Value}, PySem.W.EachIs (Mid w ps H) us ds → ∃ vs, Vals vs us ∧ RepAll w ps H vs ds
  | _, _, .nil => ⟨[], .nil, .nil⟩
  | _, _, .cons ⟨v, r, a⟩ t => by
    obtain ⟨vs, r2, a2⟩ := unmids t
    exact ⟨v :: vs, .cons r r2, .cons a a2⟩
theorem pys_map : ∀ ds : List D, D.pys ds = ds.map D.py
  | [] => rfl
  | d :: ds => by rw [List.map_cons, ← pys_map ds]; rfl
theorem sortOk_ok {ks : List PyData} (h : sortOk ks = true) : PySem.W.AllAlike ks ∧ Sortable' ks ∧ ∀ d ∈ ks, SeqAt.shaped d = true := by
  unfold sortOk alikeAllB sortableB at h
  simp only [Bool.and_eq_true, Bool.or_eq_true, List.all_eq_true] at h
  obtain ⟨⟨h1, h2⟩, h3⟩ := h
  refine ⟨fun d hd e he => h1 d hd e he, ?_, h3⟩
  rcases h2 with h2 | h2
  · refine .inl fun d hd => ?_
    have := h2 d hd
    split at this
    · exact ⟨_, rfl⟩
    · cases this
  · refine .inr fun d hd => ?_
    have := h2 d hd
    split at this
    · cases this
    · cases this
    · rename_i n1 n2
      exact ⟨n1, n2⟩
end
def bltV : Blt → Value
  | .len => .builtin "len" | .abs => .builtin "abs" | .int => .type "int" | .tuple => .type "tuple" | .list => .type "list" | .sorted => .builtin "sorted" | .sum => .builtin "sum" | .all => .builtin "all" | .any => .builtin "any"
  | .max => .builtin "max" | .min => .builtin "min" | .max2 => .builtin "max" | .min2 => .builtin "min"
def rBlt (w : Wd) (f : Blt) : List V → Hp → VK → Prop := fun xs H Q => ∃ ps S H1 ds d, RepsM w ps 1 H1 H xs ds ∧ StOk w ps S H ∧ bltD f ds = some d ∧ Ret w ps 3 Q d S H
section
variable {w : Wd} {X : Cx}
theorem each_reads {pins : List (Addr × Obj)} {σ : L2.St} {H : Hp} {s : Shared} {ps : Option Addr} (hK : X.K = w.K) (I : Inv X pins σ H s) : ∀ {ds : List D} {us : List Value}, PySem.W.EachIs (Mid w ps H) us ds → (∀ d ∈ D.pys ds, SeqAt.shaped d = true) → PySem.W.EachIs (fun v b => ∃ as, Reads s.heap v (D.py b) as) us ds
  | _, _, .nil, _ => .nil
  | d :: ds, _, .cons ⟨v, r, a⟩ t, h => .cons (Dp.reads I _ v _ (by rw [hK]; exact a.dp (SeqAt.canLay_of_shaped (h _ (by rw [pys_map]; simp)))) r) (each_reads hK I t fun e he => h e (by rw [pys_map] at he ⊢; exact List.mem_cons_of_mem _ he))
/-- sorted(xs) -/
theorem cr_sortedD (hK : X.K = w.K) (hu : X.A.units + 66 < cLine) {pins : List (Addr × Obj)} {σ : L2.St} {H : Hp} {s : Shared} {ps : Option Addr} {S : Sx} {Q : VK} {a : Addr} {vs : List V} {ds : List D} (I : Inv X pins σ H s) (h : SqL X.K H a vs) (ra : RepAll w ps H vs ds)
    (st : StOk w ps S H) (ok : sortOk (D.pys ds) = true) (q : Ret w ps 3 Q (.lst (sortD D.py ds)) S H) : wpAny (model X.prog X.w) X.A (call (.builtin "sorted") [.ref a]) (EP X pins σ Q) X.xe s := by
  obtain ⟨its, rv, hl, hz⟩ := I.list h
  obtain ⟨o1, o2, o3⟩ := sortOk_ok ok
  have em := mids ra rv
  refine sorted_data' (R := Mid w ps H) (bs := ds) (enc := D.py) hl.isList em (each_reads hK I em o3) (by rw [← pys_map]; exact o1) (by rw [← pys_map]; exact o2) (by rw [← ra.length]; exact hz) (fun d hd => ?_) fun out hlen eo => ?_
  · have := SeqAt.depth_of_shaped (o3 d.py (by rw [pys_map]; exact List.mem_map_of_mem hd))
    omega
  · obtain ⟨ep, he'⟩ := PyProof.Rows.sortedAll_at s.heap its out.toArray
    obtain ⟨vs', r1, r2⟩ := unmids eo
    have hlen' : vs'.length ≤ sizeLine := by
      rw [r1.length, hlen, ← ra.length]
      exact hz
    have hn : H (s.heap.objs.size + 1) = none := I.hok.fresh (Nat.le_succ _)
    refine ⟨.ref _, upd H (s.heap.objs.size + 1) (.lst vs'), I.laid (t' := s.toks) (fun _ _ => PyProof.Rows.sortedAll_old) (Nat.le_succ _) ⟨hlen', out, ep, r1, by rw [he']⟩, rfl, new_lst q st r2 _ hn⟩
theorem cr_sortedDT (hK : X.K = w.K) (hu : X.A.units + 66 < cLine) {pins : List (Addr × Obj)} {σ : L2.St} {H : Hp} {s : Shared} {ps : Option Addr} {S : Sx} {Q : VK} {a : Addr} {vs : List V} {ds : List D} (I : Inv X pins σ H s) (h : SqT X.K H a vs) (ra : RepAll w ps H vs ds)
    (st : StOk w ps S H) (ok : sortOk (D.pys ds) = true) (q : Ret w ps 3 Q (.lst (sortD D.py ds)) S H) : wpAny (model X.prog X.w) X.A (call (.builtin "sorted") [.ref a]) (EP X pins σ Q) X.xe s := by
  obtain ⟨its, rv, hl, hz⟩ := I.tuple h
  obtain ⟨o1, o2, o3⟩ := sortOk_ok ok
  have em := mids ra rv
  refine sorted_dataT (R := Mid w ps H) (bs := ds) (enc := D.py) hl em (each_reads hK I em o3) (by rw [← pys_map]; exact o1) (by rw [← pys_map]; exact o2) (by rw [← ra.length]; exact hz) (fun d hd => ?_) fun out hlen eo => ?_
  · have := SeqAt.depth_of_shaped (o3 d.py (by rw [pys_map]; exact List.mem_map_of_mem hd))
    omega
  · obtain ⟨ep, he'⟩ := PyProof.Rows.sortedAll_at s.heap its out.toArray
    obtain ⟨vs', r1, r2⟩ := unmids eo
    have hlen' : vs'.length ≤ sizeLine := by
      rw [r1.length, hlen, ← ra.length]
      exact hz
    have hn : H (s.heap.objs.size + 1) = none := I.hok.fresh (Nat.le_succ _)
    refine ⟨.ref _, upd H (s.heap.objs.size + 1) (.lst vs'), I.laid (t' := s.toks) (fun _ _ => PyProof.Rows.sortedAll_old) (Nat.le_succ _) ⟨hlen', out, ep, r1, by rw [he']⟩, rfl, new_lst q st r2 _ hn⟩
theorem cr_blt (hK : X.K = w.K) (hc : X.calm = true) (hu : X.A.units + 66 < cLine) : ∀ f, CallR X (bltV f) (rBlt w f) := by
  intro f pins s σ H xs us Q I rx h
  obtain ⟨ps, S, H1, ds, d, ra, st, e, q⟩ := h
  unfold bltD at e
  split at e
  · -- len
    cases e
    obtain ⟨v, rfl, r⟩ := reps1 ra
    obtain ⟨a, vs, rfl, h1, r1⟩ := tupOf r
    rw [← r1.length] at q
    exact call_len pins s σ H _ us Q I rx ⟨_, vs.length, rfl, .inr ⟨vs, by rw [hK]; exact h1, rfl⟩, q _ H Keep.refl st .int3⟩
  · cases e
    obtain ⟨v, rfl, r⟩ := reps1 ra
    obtain ⟨a, vs, rfl, h1, r1⟩ := lstOf r
    rw [← r1.length] at q
    exact call_len pins s σ H _ us Q I rx ⟨_, vs.length, rfl, .inl ⟨vs, Rd.sql h1, rfl⟩, q _ H Keep.refl st .int3⟩
  · split at e
    · rename_i hl
      cases e
      obtain ⟨v, rfl, r⟩ := reps1 ra
      rw [strOf r] at rx
      exact call_len pins s σ H _ us Q I rx ⟨_, _, rfl, ⟨hl, rfl⟩, q _ H Keep.refl st .int3⟩
    · cases e
  · cases e
    obtain ⟨v, rfl, r⟩ := reps1 ra
    rw [intOf r] at rx
    exact call_abs pins s σ H _ us Q I rx ⟨_, rfl, q _ H Keep.refl st .int3⟩
  · cases e
    obtain ⟨v, rfl, r⟩ := reps1 ra
    rw [intOf r] at rx
    exact call_int1 pins s σ H _ us Q I rx (.inl ⟨_, rfl, q _ H Keep.refl st .int3⟩)
  · -- tuple
    cases e
    obtain ⟨v, rfl, r⟩ := reps1 ra
    obtain ⟨a, vs, rfl, h1, r1⟩ := lstOf r
    exact call_tuple_of pins s σ H _ us Q I rx ⟨a, vs, rfl, .inl ⟨Rd.sql h1, new_tup q st r1⟩⟩
  · cases e
    obtain ⟨v, rfl, r⟩ := reps1 ra
    have sa := tupSame r
    obtain ⟨a, vs, rfl, h1, r1⟩ := tupOf r
    exact call_tuple_of pins s σ H _ us Q I rx ⟨a, vs, rfl, .inr ⟨by rw [hK]; exact h1, q _ H Keep.refl st (.tup3 sa)⟩⟩
  · -- list
    cases e
    obtain ⟨v, rfl, r⟩ := reps1 ra
    obtain ⟨a, vs, rfl, h1, r1⟩ := lstOf r
    exact call_list_of pins s σ H _ us Q I rx ⟨a, vs, rfl, .inl (Rd.sql h1), new_lst q st r1⟩
  · cases e
    obtain ⟨v, rfl, r⟩ := reps1 ra
    obtain ⟨a, vs, rfl, h1, r1⟩ := tupOf r
    exact call_list_of pins s σ H _ us Q I rx ⟨a, vs, rfl, .inr (by rw [hK]; exact h1), new_lst q st r1⟩
  · -- sorted
    split at e
    · rename_i ok
      cases e
      obtain ⟨v, rfl, r⟩ := reps1 ra
      obtain ⟨a, vs, rfl, h1, r1⟩ := lstOf r
      rw [Vals.ref1 rx]
      exact cr_sortedD hK hu I (Rd.sql h1) r1 st ok q
    · cases e
  · split at e
    · rename_i ok
      cases e
      obtain ⟨v, rfl, r⟩ := reps1 ra
      obtain ⟨a, vs, rfl, h1, r1⟩ := tupOf r
      rw [Vals.ref1 rx]
      exact cr_sortedDT hK hu I (by rw [hK]; exact h1) r1 st ok q
    · cases e
  · -- sum
    rename_i ds
    cases hi : intsD ds with
    | none => rw [hi] at e; cases e
    | some l =>
      rw [hi] at e
      cases e
      obtain ⟨v, rfl, r⟩ := reps1 ra
      obtain ⟨a, vs, rfl, h1, r1⟩ := lstOf r
      rw [intsOf r1 hi] at h1
      exact cr_sum hc pins s σ H _ us Q I rx ⟨a, l, rfl, Rd.sql h1, q _ H Keep.refl st .int3⟩
  · -- all
    rename_i ds
    cases hi : blsD ds with
    | none => rw [hi] at e; cases e
    | some l =>
      rw [hi] at e
      cases e
      obtain ⟨v, rfl, r⟩ := reps1 ra
      obtain ⟨a, vs, rfl, h1, r1⟩ := lstOf r
      rw [blsOf r1 hi] at h1
      exact cr_all hc pins s σ H _ us Q I rx ⟨a, l, rfl, Rd.sql h1, q _ H Keep.refl st .bl3⟩
  · rename_i ds
    cases hi : blsD ds with
    | none => rw [hi] at e; cases e
    | some l =>
      rw [hi] at e
      cases e
      obtain ⟨v, rfl, r⟩ := reps1 ra
      obtain ⟨a, vs, rfl, h1, r1⟩ := lstOf r
      rw [blsOf r1 hi] at h1
      exact cr_any hc pins s σ H _ us Q I rx ⟨a, l, rfl, Rd.sql h1, q _ H Keep.refl st .bl3⟩
  · -- max
    rename_i ds
    cases hi : intsD ds with
    | none => rw [hi] at e; cases e
    | some l =>
      rw [hi] at e
      have e' : (mostI l).map D.int = some d := e
      cases hm : mostI l with
      | none => rw [hm] at e'; cases e'
      | some k =>
        rw [hm] at e'
        cases e'
        obtain ⟨v, rfl, r⟩ := reps1 ra
        obtain ⟨a, vs, rfl, h1, r1⟩ := lstOf r
        rw [intsOf r1 hi] at h1
        have hk := List.max?_eq_some_iff.mp (show l.max? = some k from hm)
        refine cr_max hc pins s σ H _ us Q I rx ⟨a, l, rfl, Rd.sql h1, List.length_pos_of_mem hk.1, fun m h2 h3 => ?_⟩
        have : m = k := Int.le_antisymm (hk.2 m h2) (h3 k hk.1)
        subst this
        exact q _ H Keep.refl st .int3
  · rename_i ds
    cases hi : intsD ds with
    | none => rw [hi] at e; cases e
    | some l =>
      rw [hi] at e
      have e' : (leastI l).map D.int = some d := e
      cases hm : leastI l with
      | none => rw [hm] at e'; cases e'
      | some k =>
        rw [hm] at e'
        cases e'
        obtain ⟨v, rfl, r⟩ := reps1 ra
        obtain ⟨a, vs, rfl, h1, r1⟩ := lstOf r
        rw [intsOf r1 hi] at h1
        have hk := List.min?_eq_some_iff.mp (show l.min? = some k from hm)
        refine cr_min hc pins s σ H _ us Q I rx ⟨a, l, rfl, Rd.sql h1, List.length_pos_of_mem hk.1, fun m h2 h3 => ?_⟩
        have : m = k := Int.le_antisymm (h3 k hk.1) (hk.2 m h2)
        subst this
        exact q _ H Keep.refl st .int3
  · cases e
    obtain ⟨v, u, rfl, r, r2⟩ := reps2 ra
    rw [intOf r, intOf r2] at rx
    exact call_max2 hc pins s σ H _ us Q I rx ⟨_, _, rfl, q _ H Keep.refl st .int3⟩
  · cases e
    obtain ⟨v, u, rfl, r, r2⟩ := reps2 ra
    rw [intOf r, intOf r2] at rx
    exact call_min2 hc pins s σ H _ us Q I rx ⟨_, _, rfl, q _ H Keep.refl st .int3⟩
  · cases e
end
end Pu

/-! ======== Pu8 ======== -/
namespace Pu
open PySem PySem.Spec PyProof.Rows L2
/-! ### what the look at the tree tells -/
def NS (es : List Expr) : Prop := ∀ x ∈ es, ∀ y p, x ≠ .Starred y p
theorem NS.tail {x : Expr} {es : List Expr} (h : NS (x :: es)) : NS es := fun y hy => h y (List.mem_cons_of_mem _ hy)
theorem NS.star {x : Expr} {es : List Expr} {env : Env} (h : NS (x :: es)) : starEach (x :: es) env = (false, eval x env) :: starEach es env := star_cons x es env (h x List.mem_cons_self)
theorem NS.any {es : List Expr} {env : Env} {pos : Pos} : NS es → (backTo pos (starEach es env)).any (·.1) = false := by
  induction es with
  | nil => intro _; rfl
  | cons x es ih =>
    intro h
    rw [h.star]
    show (false || _) = false
    rw [Bool.false_or]
    exact ih h.tail
theorem chk_ns {nm : Nm} {N : List Str} {e : E} {sc : Scope} {x : Expr} (h : chkE nm N e sc x = true) : ∀ y p, x ≠ .Starred y p := by
  rintro y p rfl
  cases e <;> first | (cases h; done) | (simp [chkE] at h)
theorem chks_ns {nm : Nm} {N : List Str} {sc : Scope} : ∀ {es : Es} {l : List Expr}, chkEs nm N es sc l = true → NS l
  | .nil, [], _ => fun x hx => nomatch hx
  | .nil, _ :: _, h => by simp [chkEs] at h
  | .cons e es, [], h => by simp [chkEs] at h
  | .cons e es, x :: l, h => by
    simp only [chkEs, Bool.and_eq_true] at h
    intro y hy
    rcases List.mem_cons.mp hy with rfl | hy
    · exact chk_ns h.1
    · exact chks_ns h.2 y hy
theorem gl_of {X : Cx} {x : Str} (h : glB X.env.scope x = true) : Gl X x ∧ (x == ("__debug__" : Str)) = false := by
  unfold glB at h
  rw [Bool.and_eq_true] at h
  refine ⟨?_, by simpa using h.2⟩
  have h1 := h.1
  split at h1
  · assumption
  · cases h1
theorem sl_of {X : Cx} {i : Nat} {x : Str} (h : slB X.N X.env.scope i x = true) : X.N[i]? = some x ∧ Vis X.env.scope x ∧ (x == ("__debug__" : Str)) = false ∧ (x == ("__classdict__" : Str)) = false := by
  unfold slB at h
  simp only [Bool.and_eq_true, Bool.not_eq_true', decide_eq_false_iff_not] at h
  obtain ⟨⟨⟨h1, h2⟩, h3⟩, h4⟩ := h
  refine ⟨?_, ?_, by simpa using h3, by simpa using h4⟩
  · unfold eqS at h1
    split at h1
    · rename_i y e
      rw [e, of_decide_eq_true h1]
    · cases h1
  · unfold visB at h2
    split at h2
    · exact .inl (by assumption)
    · exact .inr (.inl (by assumption))
    · exact .inr (.inr (by assumption))
    · cases h2
theorem loc_of {N : List Str} {sc : Scope} {i : Nat} {x : Str} (h : (eqS N[i]? x && locB sc x) = true) : N[i]? = some x ∧ Loc sc x := by
  rw [Bool.and_eq_true] at h
  refine ⟨?_, ?_⟩
  · have h1 := h.1
    unfold eqS at h1
    split at h1
    · rename_i y e
      rw [e, of_decide_eq_true h1]
    · cases h1
  · have h2 := h.2
    unfold locB at h2
    split at h2
    · exact .inl (by assumption)
    · exact .inr (by assumption)
    · cases h2
/-! ### built-ins called -/
def bltNames : List Str := ["len", "abs", "int", "tuple", "list", "sorted", "sum", "all", "any", "max", "min", "isinstance", "range", "enumerate", "zip", "bool", "str", "set"]
section
variable {w : Wd} {W : XK} {X : Cx} {pos p : Pos} {m : Md} {l : Expr} {ls : List Expr} {d : Rho → Sx → R (List D)}
theorem im_blt {f : Blt} : ∀ σ H Q, tE w W 3 (fun ρ S => (d ρ S).bind fun ds S => R.of S (bltD f ds)) σ H Q → tCB (rBlt w f) (tA w W 1 d) σ H Q := by
  rintro σ H Q ⟨ps, H0, ρ, S, env, st, q⟩
  rw [Pst.bind] at q
  refine ⟨ps, H0, ρ, S, env, st, Pst.imp q fun ds S1 q1 vs H1 k1 st1 r1 => ?_⟩
  obtain ⟨d3, e, q3⟩ := R.of_st (Pst.mono Ret.mon k1 q1)
  exact ⟨ps, S1, H, ds, d3, r1, st1, e, q3⟩
theorem ok_blt (hK : X.K = w.K) (hc : X.calm = true) (hu : X.A.units + 66 < cLine) (hb : ∀ x ∈ bltNames, X.mg x = none) {f : Blt} (hg : glB X.env.scope (bltN f) = true) (hm : m < 3) (ns : NS (l :: ls)) (ha : PA X (l :: ls) (tA w W 1 d)) :
    PE X (.Call (.Name (bltN f) p) (l :: ls) [] pos) (tE w W m fun ρ S => natM m ((d ρ S).bind fun ds S => R.of S (bltD f ds))) := by
  obtain ⟨g1, g2⟩ := gl_of hg
  have cr := cr_blt (w := w) hK hc hu f
  have hn : X.mg (bltN f) = none := hb _ (by cases f <;> decide)
  refine peNat (de := fun ρ S => (d ρ S).bind fun ds S => R.of S (bltD f ds)) ?_ m hm
  cases f
  case int => exact peImp (pe_callTy cr g1 hn rfl ha (by decide) g2 ns.star ns.tail.any) im_blt
  case tuple => exact peImp (pe_callTy cr g1 hn rfl ha (by decide) g2 ns.star ns.tail.any) im_blt
  case list => exact peImp (pe_callTy cr g1 hn rfl ha (by decide) g2 ns.star ns.tail.any) im_blt
  all_goals exact peImp (pe_callB cr g1 hn rfl ha (by decide) g2 ns.star ns.tail.any) im_blt
end
/-! ### subscripts -/
section
variable {w : Wd} {W : XK} {X : Cx} {pos p : Pos} {m : Md} {a b : Expr} {da db : Rho → Sx → R D}
theorem atI_rep {ps : Option Addr} {H : Hp} {vs : List V} {ds : List D} {i : Int} {d : D} (r : RepAll w ps H vs ds) (h : atI ds i = some d) : ∃ v, atI vs i = some v ∧ Rep w ps H v d := by
  unfold atI at h ⊢
  rw [r.length]
  cases e : ixN ds.length i with
  | none => rw [e] at h; cases h
  | some j =>
    rw [e] at h
    exact r.get h
def rIdx (w : Wd) : R2 := fun x y H Q => ∃ ps S H1 da db, RepM w ps 1 H1 H x da ∧ Rep w ps H y db ∧ StOk w ps S H ∧ Pst w ps (fun _ _ _ => False) (idxS da db S) H (Ret w ps 0 Q)
theorem ixr (hK : X.K = w.K) : IxR X (rIdx w) := by
  intro value slice pins s σ H x y v u Q I rx ry h hs
  obtain ⟨ps, S, H1, da, db, ra, rb, st, q⟩ := h
  unfold idxS at q
  have key : ∀ (ds : List D) (vs : List V) (pa : Addr), RepAll w ps H vs ds → (SqL X.K H pa vs ∨ SqT X.K H pa vs) → x = .ref pa → (∃ i, db = .int i ∧ ∃ d, atI ds i = some d ∧ Ret w ps 0 Q d S H) → wpAny (model X.prog X.w) X.A (subscriptTail value slice v u) (EP X pins σ Q) X.xe s := by
    rintro ds vs pa r hq rfl ⟨i, rfl, d, e, q⟩
    cases rb
    obtain ⟨z, e2, r2⟩ := atI_rep r e
    rcases hq with hq | hq
    · exact ix_list value slice pins s σ H _ _ v u Q I rx ry ⟨pa, vs, i, z, rfl, rfl, hq, e2, q z H Keep.refl st r2⟩ hs
    · exact ix_tup value slice pins s σ H _ _ v u Q I rx ry ⟨pa, vs, i, z, rfl, rfl, hq, e2, q z H Keep.refl st r2⟩ hs
  split at q
  · split at q
    · rename_i l
      obtain ⟨d, e, q5⟩ := R.of_st q
      have hx : x = .ref ((ps.getD 0)) ∧ ps = some (ps.getD 0) := by
        rcases ra with ra | ⟨_, _, _, z, _⟩
        · cases ra with
          | st e => rw [e]; exact ⟨rfl, rfl⟩
        · cases z
      obtain ⟨hx, hp⟩ := hx
      have st' := st
      rw [hp] at st'
      obtain ⟨vs, h1, r1⟩ := st'
      rw [← hp] at r1
      unfold idxD at e
      split at e
      · cases ‹D.lst _ = D.tup _›
      · cases ‹D.lst _ = D.lst _›
        exact key _ vs _ r1 (.inl (.inl (.inl h1))) hx ⟨_, rfl, d, e, q5⟩
      · cases e
    · exact q.elim
  · obtain ⟨d, e, q5⟩ := R.of_st q
    unfold idxD at e
    split at e
    · obtain ⟨pa, vs, e1, h1, r1⟩ := tupOf ra
      exact key _ vs pa r1 (.inr (by rw [hK]; exact h1)) e1 ⟨_, rfl, d, e, q5⟩
    · obtain ⟨pa, vs, e1, h1, r1⟩ := lstOf ra
      exact key _ vs pa r1 (.inl (Rd.sql h1)) e1 ⟨_, rfl, d, e, q5⟩
    · cases e
theorem plainIx {b : Expr} (h : (match b with | .Slice .. => false | _ => true) = true) : PlainIx b := by
  intro o i
  cases b <;> first | rfl | (cases h; done)
theorem idxS_noexc {da db : D} {S : Sx} {ps : Option Addr} {H : Hp} {F : D → Sx → Hp → Prop} (h : Pst w ps W (idxS da db S) H F) : Pst w ps (fun _ _ _ => False) (idxS da db S) H F := by
  cases e : idxS da db S with
  | ok d S1 => rw [e] at h; exact h
  | stuck => rw [e] at h; exact h
  | exc c p S1 =>
    unfold idxS at e
    split at e
    · split at e
      · unfold R.of at e; split at e <;> cases e
      · cases e
    · unfold R.of at e; split at e <;> cases e
theorem ok_idx (hK : X.K = w.K) (hb' : (match b with | .Slice .. => false | _ => true) = true) (ha : PE X a (tE w W 1 da)) (hb : PE X b (tE w W 0 db)) :
    PE X (.Subscript a b pos) (tE w W m fun ρ S => onlyNew m ((da ρ S).bind fun x S => (db ρ S).bind fun y S => idxS x y S)) := by
  refine peOld (peImp (pe_ix (ixr (w := w) hK) ha hb (plainIx hb')) ?_) m
  rintro σ H Q ⟨ps, H0, ρ, S, env, st, q⟩
  exact ⟨ps, H0, ρ, S, env, st, step Ret.mon q fun d S1 v H1 k1 st1 r1 q1 => ⟨ps, H0, ρ, S1, env.mono k1, st1, step Ret.mon q1 fun d2 S2 u H2 k2 st2 r2 q2 =>
    ⟨ps, S2, H1, d, d2, r1.mono (by decide) k2, r2, st2, idxS_noexc q2⟩⟩⟩
end
/-! ### slices -/
section
variable {w : Wd} {W : XK} {X : Cx} {pos p2 : Pos} {m : Md} {a : Expr} {da : Rho → Sx → R D}
def tP (w : Wd) (W : XK) (de : Rho → Sx → R (Option Int)) : TO := fun σ H Q => ∃ ps H0 ρ S, EnvOk w ps H0 ρ σ H ∧ StOk w ps S H ∧ Pst w ps W (de ρ S) H fun o S H => ∀ H', Keep ps H H' → StOk w ps S H' → Q o H'
theorem poImp {e : Option Expr} {t t' : TO} (h : PO X e t) (i : ∀ σ H Q, t' σ H Q → t σ H Q) : PO X e t' := ⟨fun pins s σ H Q I q => h.run pins s σ H Q I (i σ H Q q)⟩
theorem ok_nopart : PO X none (tP w W fun _ S => .ok none S) := poImp po_none fun σ H Q ⟨ps, H0, ρ, S, env, st, q⟩ => q H Keep.refl st
theorem ok_part (ha : PE X a (tE w W 0 da)) : PO X (some a) (tP w W fun ρ S => partR (da ρ S)) := poImp (po_some ha) fun σ H Q ⟨ps, H0, ρ, S, env, st, q⟩ => by
  refine ⟨ps, H0, ρ, S, env, st, ?_⟩
  have q' : Pst w ps W ((da ρ S).bind fun x S => match x with | .int i => .ok (some i) S | _ => .stuck) H fun o S H => ∀ H', Keep ps H H' → StOk w ps S H' → Q o H' := q
  rw [Pst.bind] at q'
  refine Pst.imp q' fun d S1 q1 v H1 k1 st1 r1 => ?_
  cases d with
  | int i => cases r1; exact ⟨i, rfl, q1 H1 k1 st1⟩
  | _ => exact q1.elim
def rSl (w : Wd) : V → Option Int → Option Int → Hp → VK → Prop := fun x lo hi H Q => ∃ ps S H1 da d, RepM w ps 1 H1 H x da ∧ StOk w ps S H ∧ slcD da lo hi = some d ∧ Ret w ps 3 Q d S H
theorem cut_rep {ps : Option Addr} {H : Hp} {vs : List V} {ds : List D} (lo hi : Option Int) (r : RepAll w ps H vs ds) : RepAll w ps H (cutV vs lo hi) (cutD ds lo hi) := by
  unfold cutV cutD
  rw [r.length]
  exact (r.drop _).take _
theorem cut_whole {ds : List D} {lo hi : Option Int} (h : HT.sIx ds.length 0 lo = 0 ∧ HT.sIx ds.length ds.length hi = ds.length) : cutD ds lo hi = ds := by
  unfold cutD
  rw [h.1, h.2, List.drop_zero, Nat.sub_zero, List.take_length]
theorem slr (hK : X.K = w.K) : SlR X (rSl w) := by
  intro pins s σ H x v vl vu lo hi sl Q I rx hs pl pu h
  obtain ⟨ps, S, H1, da, d, ra, st, e, q⟩ := h
  unfold slcD at e
  split at e
  · cases e
    obtain ⟨pa, vs, e1, h1, r1⟩ := tupOf ra
    refine sl_tupA pins s σ H x v vl vu lo hi sl Q I rx hs pl pu ⟨pa, vs, e1, by rw [hK]; exact h1, fun hw => ?_, fun _ => new_tup q st (cut_rep lo hi r1)⟩
    rw [r1.length] at hw
    rw [cut_whole hw] at q
    exact q _ H Keep.refl st (.tup3 (e1 ▸ tupSame ra))
  · cases e
    obtain ⟨pa, vs, e1, h1, r1⟩ := lstOf ra
    exact sl_list pins s σ H x v vl vu lo hi sl Q I rx hs pl pu ⟨pa, vs, e1, Rd.sql h1, new_lst q st (cut_rep lo hi r1)⟩
  · cases e
    rename_i ds0
    have r0 : Rep w ps H x (.scr ds0) := by
      rcases ra with ra | ⟨_, _, _, z, _⟩
      · exact ra
      · cases z
    cases r0 with
    | scr h1 r1 => exact sl_list pins s σ H _ v vl vu lo hi sl Q I rx hs pl pu ⟨_, _, rfl, by rw [hK]; exact h1.sql, new_lst q st (cut_rep lo hi r1)⟩
  · cases e
theorem ok_slc (hK : X.K = w.K) {lo hi : Option Expr} {dl dh : Rho → Sx → R (Option Int)} (hm : m < 3) (ha : PE X a (tE w W 1 da)) (hl : PO X lo (tP w W dl)) (hh : PO X hi (tP w W dh)) :
    PE X (.Subscript a (.Slice lo hi none p2) pos) (tE w W m fun ρ S => natM m ((da ρ S).bind fun x S => (dl ρ S).bind fun l S => (dh ρ S).bind fun h S => R.of S (slcD x l h))) := by
  refine peNat (de := fun ρ S => (da ρ S).bind fun x S => (dl ρ S).bind fun l S => (dh ρ S).bind fun h S => R.of S (slcD x l h)) (peImp (pe_slice (slr (w := w) hK) ha hl hh) ?_) m hm
  rintro σ H Q ⟨ps, H0, ρ, S, env, st, q⟩
  refine ⟨ps, H0, ρ, S, env, st, step Ret.mon q fun d S1 v H1 k1 st1 r1 q1 => ⟨ps, H0, ρ, S1, env.mono k1, st1, ?_⟩⟩
  rw [Pst.bind] at q1
  refine Pst.imp q1 fun o S2 q2 H2 k2 st2 => ⟨ps, H0, ρ, S2, (env.mono k1).mono k2, st2, ?_⟩
  have q2 := Pst.mono Ret.mon k2 q2
  rw [Pst.bind] at q2
  refine Pst.imp q2 fun o2 S3 q3 H3 k3 st3 => ?_
  obtain ⟨d3, e, q4⟩ := R.of_st (Pst.mono Ret.mon k3 q3)
  exact ⟨ps, S3, H1, d, d3, r1.mono (by decide) (k2.trans k3), st3, e, q4⟩
end
end Pu

/-! ======== Pu9 ======== -/
namespace Pu
open PySem PySem.Spec PyProof.Rows L2
/-! ### what is walked -/
def Rel (w : Wd) (ps : Option Addr) (m : Md) (H H' : Hp) : Prop := if m = 1 then Keep ps H H' else Kd w H H'
def Gives (w : Wd) (ps : Option Addr) (m : Md) (J : It) (ds : List D) (H1 : Hp) : Prop := ∀ H, Rel w ps m H1 H → ∀ i,
  (i < ds.length → J.go i H ∧ ∀ x H', J.yld i H x H' → (H' = H ∨ ∃ T o, H T = none ∧ H' = upd H T o) ∧ ∃ d, ds[i]? = some d ∧ Rep w ps H' x d) ∧ (i = ds.length → J.stop i H)
def tI (w : Wd) (W : XK) (m : Md) (de : Rho → Sx → R (List D)) : TI := fun σ H R => ∃ ps H0 ρ S, EnvOk w ps H0 ρ σ H ∧ StOk w ps S H ∧ Pst w ps W (de ρ S) H fun ds S H => ∀ J H', Keep ps H H' → StOk w ps S H' → ds.length ≤ sizeLine → Gives w ps m J ds H' → R J H'
theorem piImp {X : Cx} {tg e : Expr} {t t' : TI} (h : PI X tg e t) (i : ∀ σ H Q, t' σ H Q → t σ H Q) : PI X tg e t' := ⟨fun pins s σ H Q I q => h.run pins s σ H Q I (i σ H Q q)⟩
section
variable {w : Wd} {ps : Option Addr} {H H' : Hp} {m : Md}
theorem Rel.kd (r : Rel w ps m H H') : Kd w H H' := by
  unfold Rel at r
  split at r
  · exact r.kd
  · exact r
theorem gives_list {K : PySem.W.Frag} {a : Addr} {vs : List V} {ds : List D} (h : ∀ H2, Rel w ps m H H2 → SqL K H2 a vs) (r : RepAll w ps H vs ds) : Gives w ps m (Itl K a) ds H := fun H2 k i => by
  have hs := h H2 k
  have hl := r.length
  refine ⟨fun hi => ?_, fun hi => ⟨vs, hs, by omega⟩⟩
  have hv : vs[i]? = some (vs[i]'(by omega)) := List.getElem?_eq_getElem (by omega)
  obtain ⟨d, e, r'⟩ := r.getV hv
  exact ⟨⟨vs, _, hs, hv⟩, fun x H' ⟨e1, e2⟩ => ⟨.inl e1, d, e, by
    have := (e2 vs hs).symm.trans hv
    cases this
    subst e1
    exact r'.mono k.kd⟩⟩
theorem gives_tup {K : PySem.W.Frag} {a : Addr} {vs : List V} {ds : List D} (h : ∀ H2, Rel w ps m H H2 → SqT K H2 a vs) (r : RepAll w ps H vs ds) : Gives w ps m (Itt K a) ds H := fun H2 k i => by
  have hs := h H2 k
  have hl := r.length
  refine ⟨fun hi => ?_, fun hi => ⟨vs, hs, by omega⟩⟩
  have hv : vs[i]? = some (vs[i]'(by omega)) := List.getElem?_eq_getElem (by omega)
  obtain ⟨d, e, r'⟩ := r.getV hv
  exact ⟨⟨vs, _, hs, hv⟩, fun x H' ⟨e1, e2⟩ => ⟨.inl e1, d, e, by
    have := (e2 vs hs).symm.trans hv
    cases this
    subst e1
    exact r'.mono k.kd⟩⟩
theorem rngD_get {lo : Int} {n i : Nat} (h : i < n) : (rngD lo n)[i]? = some (.int (lo + i)) := by
  unfold rngD
  rw [List.getElem?_map, List.getElem?_range h]
  rfl
theorem rngD_len {lo : Int} {n : Nat} : (rngD lo n).length = n := by
  unfold rngD
  rw [List.length_map, List.length_range]
theorem gives_rng {lo : Int} {n : Nat} : Gives w ps m (Itr lo n) (rngD lo n) H := fun H2 k i => by
  rw [rngD_len]
  refine ⟨fun hi => ⟨hi, fun x H' ⟨e1, e2⟩ => ⟨.inl e1, _, rngD_get hi, ?_⟩⟩, fun hi => Nat.le_of_eq hi.symm⟩
  subst e2
  exact .int _
end
section
variable {w : Wd} {W : XK} {X : Cx} {tg e a b : Expr} {de da db : Rho → Sx → R D} {m : Md}
/-- a list or a tuple, walked -/
theorem pi_seq {t : TE} (he : PE X e t) : PI X tg e (fun σ H R => t σ H fun x H1 => ∃ a, x = .ref a ∧ ((∃ xs, SqL X.K H1 a xs ∧ (xs.length ≤ sizeLine → R (Itl X.K a) H1)) ∨ (∃ xs, SqT X.K H1 a xs ∧ (xs.length ≤ sizeLine → R (Itt X.K a) H1)))) := by
  refine ⟨fun pins s σ H R I h => ?_⟩
  refine thn (he.run pins s σ H _ I h) fun v s1 ⟨x, H1, I1, r1, q1⟩ => ?_
  obtain ⟨a, e, q⟩ := q1
  subst e
  cases r1
  rcases q with ⟨xs, hq, q⟩ | ⟨xs, hq, q⟩
  · obtain ⟨its, rv, p, hz⟩ := I1.list hq
    refine wpAny_pyIter_list p.isList ?_
    refine ⟨s1.heap.objs.size, [s1.heap.objs.size], _, _, H1, rfl, I1.kept (t' := s1.toks) fun b o e => Heap.get?_push_of_some _ e, turn_list a _, ⟨_, Heap.get?_push_size _ rfl, rfl, rfl⟩, fun b hb => ?_, q hz⟩
    have e : b = s1.heap.objs.size := by simpa using hb
    subst e
    exact I1.fpOk (Nat.le_refl _) (I1.hok.fresh (Nat.le_refl _))
  · obtain ⟨its, rv, p, hz⟩ := I1.tuple hq
    refine wpAny_pyIter_tuple (show s1.heap.IsTuple a its.toArray from p) ?_
    refine ⟨s1.heap.objs.size, [s1.heap.objs.size], _, _, H1, rfl, I1.kept (t' := s1.toks) fun b o e => Heap.get?_push_of_some _ e, turn_tuple a _, ⟨_, Heap.get?_push_size _ rfl, rfl, rfl⟩, fun b hb => ?_, q hz⟩
    have e : b = s1.heap.objs.size := by simpa using hb
    subst e
    exact I1.fpOk (Nat.le_refl _) (I1.hok.fresh (Nat.le_refl _))
theorem seq_rel {ps : Option Addr} {H H2 : Hp} {p : Addr} {vs : List V} (hm : m < 2) {ds : List D} {v : V} {H0 : Hp} (r : RepM w ps m H0 H v (.lst ds)) : ∃ a vs, v = .ref a ∧ RepAll w ps H vs ds ∧ ∀ H2, Rel w ps m H H2 → Rd H2 a (.lst vs) := by
  match m, hm, r with
  | 0, _, r =>
    cases r with
    | lst h1 h2 => exact ⟨_, _, rfl, h2, fun H2 k => .inr ⟨_, (show Kd w H H2 from k) _ _ h1 trivial⟩⟩
  | 1, _, .inl r =>
    cases r with
    | lst h1 h2 => exact ⟨_, _, rfl, h2, fun H2 k => .inr ⟨_, (Rel.kd (m := 1) (w := w) k) _ _ h1 trivial⟩⟩
  | 1, _, .inr ⟨p, vs, ds', e, e1, np, hp, r⟩ =>
    cases e
    exact ⟨_, _, e1, r, fun H2 k => .inl ((show Keep ps H H2 from k).to hp np)⟩
theorem tup_rel {ps : Option Addr} {H : Hp} (hm : m < 2) {ds : List D} {v : V} {H0 : Hp} (r : RepM w ps m H0 H v (.tup ds)) : ∃ a vs, v = .ref a ∧ RepAll w ps H vs ds ∧ ∀ H2, Rel w ps m H H2 → SqT w.K H2 a vs := by
  match m, hm, r with
  | 0, _, r =>
    cases r with
    | tup h1 h2 => exact ⟨_, _, rfl, h2, fun H2 k => Keep.seqT (show Kd w H H2 from k) (.inl (.inl h1))⟩
  | 1, _, .inl r =>
    cases r with
    | tup h1 h2 => exact ⟨_, _, rfl, h2, fun H2 k => Keep.seqT (Rel.kd (m := 1) (w := w) k) (.inl (.inl h1))⟩
  | 1, _, .inr ⟨p, vs, ds', e, _⟩ => cases e
theorem ok_ex (hK : X.K = w.K) (hm : m < 2) (he : PE X e (tE w W m de)) : PI X tg e (tI w W m fun ρ S => (de ρ S).bind fun x S => R.of S (itemsD x)) :=
  piImp (pi_seq he) fun σ H R' ⟨ps, H0, ρ, S, env, st, q⟩ => by
    rw [Pst.bind] at q
    refine ⟨ps, H0, ρ, S, env, st, Pst.imp q fun d S1 q1 v H1 k1 st1 r1 => ?_⟩
    have q1' : ∃ ds, itemsD d = some ds ∧ ∀ J H', Keep ps H H' → StOk w ps S1 H' → ds.length ≤ sizeLine → Gives w ps m J ds H' → R' J H' := by
      cases hd : itemsD d with
      | none => rw [hd] at q1; exact q1.elim
      | some ds => rw [hd] at q1; exact ⟨ds, rfl, q1⟩
    obtain ⟨ds, e1, q2⟩ := q1'
    cases d with
    | lst l =>
      cases e1
      obtain ⟨a, vs, rfl, r2, h⟩ := seq_rel (ps := ps) (H := H1) (vs := []) (p := 0) (H2 := H1) hm r1
      exact ⟨a, rfl, .inl ⟨vs, Rd.sql (h H1 (by unfold Rel; split; exact Keep.refl; exact Kd.refl)), fun hz => q2 _ _ k1 st1 (by rw [← r2.length]; exact hz) (gives_list (fun H2 k => Rd.sql (h H2 k)) r2)⟩⟩
    | tup l =>
      cases e1
      obtain ⟨a, vs, rfl, r2, h⟩ := tup_rel (ps := ps) (H := H1) hm r1
      rw [← hK] at h
      exact ⟨a, rfl, .inr ⟨vs, h H1 (by unfold Rel; split; exact Keep.refl; exact Kd.refl), fun hz => q2 _ _ k1 st1 (by rw [← r2.length]; exact hz) (gives_tup h r2)⟩⟩
    | _ => cases e1
def rng1D (x : D) (S : Sx) : R (List D) := match x with
    | .int i => if small i && decide (i.toNat ≤ sizeLine) then .ok (rngD 0 i.toNat) S else .stuck
    | _ => .stuck
theorem ok_rng1 {p pos : Pos} (hg : Gl X "range") (hmg : X.mg "range" = none) (ns : NS [a]) (ha : PE X a (tE w W 0 da)) : PI X tg (.Call (.Name "range" p) [a] [] pos) (tI w W m fun ρ S => (da ρ S).bind rng1D) :=
  piImp (pi_range1 hg hmg (pa_cons ha pa_nil ns.star) (by rw [ns.star]; rfl)) fun σ H R' ⟨ps, H0, ρ, S, env, st, q⟩ => by
    rw [Pst.bind] at q
    refine ⟨ps, H0, ρ, S, env, st, Pst.imp q fun d S1 q1 v H1 k1 st1 r1 => ?_⟩
    unfold rng1D at q1
    split at q1
    · rename_i i
      split at q1
      · rename_i hc
        unfold small at hc
        simp only [Bool.and_eq_true, decide_eq_true_eq] at hc
        cases r1
        exact ⟨i, rfl, hc.1.1, hc.1.2, (show ∀ J H', Keep ps H H' → StOk w ps S1 H' → (rngD 0 i.toNat).length ≤ sizeLine → Gives w ps m J (rngD 0 i.toNat) H' → R' J H' from q1) _ _ k1 st1 (by rw [rngD_len]; exact hc.2) gives_rng⟩
      · exact q1.elim
    · exact q1.elim
def rng2D (x y : D) (S : Sx) : R (List D) := match x, y with
    | .int i, .int j => if small i && small j && decide ((j - i).toNat ≤ sizeLine) then .ok (rngD i (j - i).toNat) S else .stuck
    | _, _ => .stuck
theorem ok_rng2 {p pos : Pos} (hg : Gl X "range") (hmg : X.mg "range" = none) (ns : NS [a, b]) (ha : PE X a (tE w W 0 da)) (hb : PE X b (tE w W 0 db)) :
    PI X tg (.Call (.Name "range" p) [a, b] [] pos) (tI w W m fun ρ S => (da ρ S).bind fun x S => (db ρ S).bind fun y S => rng2D x y S) :=
  piImp (pi_range2 hg hmg (pa_cons ha (pa_cons hb pa_nil ns.tail.star) ns.star) (by rw [ns.star, ns.tail.star]; rfl) (by rw [ns.tail.star]; rfl)) fun σ H R' ⟨ps, H0, ρ, S, env, st, q⟩ => by
    rw [Pst.bind] at q
    have mF : Mon (α := List D) ps (fun ds S H => ∀ J H', Keep ps H H' → StOk w ps S H' → ds.length ≤ sizeLine → Gives w ps m J ds H' → R' J H') := fun ds S H H' k h J H2 k2 => h J H2 (k.trans k2)
    refine ⟨ps, H0, ρ, S, env, st, Pst.imp q fun d S1 q1 v H1 k1 st1 r1 => ⟨ps, H0, ρ, S1, env.mono k1, st1, ?_⟩⟩
    have q1 := Pst.mono mF k1 q1
    rw [Pst.bind] at q1
    refine Pst.imp q1 fun d2 S2 q2 v2 H2 k2 st2 r2 => ?_
    cases d with
    | int i =>
      cases d2 with
      | int j =>
        unfold rng2D at q2
        dsimp only at q2
        split at q2
        · rename_i hc
          unfold small at hc
          simp only [Bool.and_eq_true, decide_eq_true_eq] at hc
          cases r1
          cases r2
          exact ⟨i, j, rfl, ⟨hc.1.1.1, hc.1.1.2, hc.1.2.1, hc.1.2.2⟩, (show ∀ J H', Keep ps H1 H' → StOk w ps S2 H' → (rngD i (j - i).toNat).length ≤ sizeLine → Gives w ps m J (rngD i (j - i).toNat) H' → R' J H' from q2) _ _ k2 st2 (by rw [rngD_len]; exact hc.2) gives_rng⟩
        · exact q2.elim
      | _ => exact q2.elim
    | _ => cases d2 <;> exact q2.elim
end
/-! ### targets -/
def Tg.ids : Tg → List Nat
  | .nm i => [i]
  | .tp is => is
def tG (w : Wd) (tg : Tg) : TG := fun v σ H Q => ∃ ps H0 ρ d ρ', EnvOk w ps H0 ρ σ H ∧ Rep w ps H v d ∧ tg.bind d ρ = some ρ' ∧ ∀ σ', EnvOk w ps H0 ρ' σ' H → (∀ vs, (∀ i ∈ tg.ids, i ∈ vs) → L2.wipe σ' vs = L2.wipe σ vs) → Q σ' H
theorem wipe_get {σ : L2.St} : ∀ {vs : List Nat} {j : Nat}, (L2.wipe σ vs)[j]? = if j ∈ vs ∧ j < σ.length then some none else σ[j]?
  | [], j => by simp [L2.wipe]
  | v :: vs, j => by
    unfold L2.wipe
    rw [List.getElem?_set, L2.wipe_length, wipe_get]
    by_cases h : v = j
    · subst h
      by_cases hl : v < σ.length
      · simp [hl]
      · simp [hl, List.getElem?_eq_none (by omega : σ.length ≤ v)]
    · have h' : j ≠ v := fun e => h e.symm
      simp [h, h']
theorem wipe_set {σ : L2.St} {i : Nat} {x : Option V} {vs : List Nat} (h : i ∈ vs) : L2.wipe (σ.set i x) vs = L2.wipe σ vs := by
  apply List.ext_getElem?
  intro j
  rw [wipe_get, wipe_get, List.length_set, List.getElem?_set]
  by_cases e : i = j
  · subst e
    by_cases hl : i < σ.length
    · simp [h, hl]
    · simp [hl, List.getElem?_eq_none (by omega : σ.length ≤ i)]
  · simp [e]
theorem wipe_idem {σ : L2.St} {vs : List Nat} : L2.wipe (L2.wipe σ vs) vs = L2.wipe σ vs := by
  apply List.ext_getElem?
  intro j
  rw [wipe_get, wipe_get, L2.wipe_length]
  by_cases h : j ∈ vs ∧ j < σ.length
  · simp [h]
  · simp [h]
section
variable {w : Wd} {ps : Option Addr} {H0 H : Hp} {ρ : Rho} {σ : L2.St}
theorem EnvOk.setG {i : Nat} {x : Option V} {s : Sl} (env : EnvOk w ps H0 ρ σ H) (r : SlOk w ps H0 H (some x) s) (nb : s.own = false) : EnvOk w ps H0 (ρ.set i s) (σ.set i x) H := by
  refine ⟨env.keep, by rw [List.length_set, List.length_set]; exact env.len, fun j t e => ?_, fun j k p t1 t2 e1 e2 o1 o2 e3 e4 => ?_⟩
  · by_cases h : i = j
    · subst h
      rw [List.getElem?_set] at e
      simp only [if_true] at e
      split at e
      · rename_i hl
        cases e
        rw [List.getElem?_set_self (by rw [env.len]; exact hl)]
        exact r
      · cases e
    · rw [List.getElem?_set_ne h] at e
      rw [List.getElem?_set_ne h]
      exact env.slot j t e
  · have ne : ∀ {j : Nat} {t : Sl}, t.own = true → (ρ.set i s)[j]? = some t → i ≠ j ∧ ρ[j]? = some t := fun {j t} o e => by
      by_cases h : i = j
      · subst h
        rw [List.getElem?_set] at e
        simp only [if_true] at e
        split at e
        · cases e; rw [nb] at o; cases o
        · cases e
      · rw [List.getElem?_set_ne h] at e
        exact ⟨h, e⟩
    obtain ⟨n1, e1⟩ := ne o1 e1
    obtain ⟨n2, e2⟩ := ne o2 e2
    rw [List.getElem?_set_ne n1] at e3
    rw [List.getElem?_set_ne n2] at e4
    exact env.own j k p t1 t2 e1 e2 o1 o2 e3 e4
theorem EnvOk.set {i : Nat} {v : V} {s : Sl} (env : EnvOk w ps H0 ρ σ H) (r : SlOk w ps H0 H (some (some v)) s) (nb : s.own = false) : EnvOk w ps H0 (ρ.set i s) (σ.set i (some v)) H := env.setG r nb
theorem EnvOk.forget {i : Nat} {x : Option V} (env : EnvOk w ps H0 ρ σ H) : EnvOk w ps H0 (ρ.set i .un) (σ.set i x) H := env.setG trivial rfl
theorem EnvOk.wipe (env : EnvOk w ps H0 ρ σ H) : ∀ vs : List Nat, EnvOk w ps H0 (Pu.wipe ρ vs) (L2.wipe σ vs) H
  | [] => env
  | v :: vs => (env.wipe vs).forget
/-- the slots' names alone are forgotten, the machine's slots stay -/
theorem EnvOk.forget' {i : Nat} (env : EnvOk w ps H0 ρ σ H) : EnvOk w ps H0 (ρ.set i .un) σ H := by
  by_cases h : i < σ.length
  · have := env.forget (i := i) (x := σ[i])
    rw [List.set_getElem_self] at this
    exact this
  · have e : ρ.set i .un = ρ := List.set_eq_of_length_le (by rw [← env.len]; omega)
    rw [e]
    exact env
theorem EnvOk.wipe' (env : EnvOk w ps H0 ρ σ H) : ∀ vs : List Nat, EnvOk w ps H0 (Pu.wipe ρ vs) σ H
  | [] => env
  | v :: vs => (env.wipe' vs).forget'
end
section
variable {w : Wd} {X : Cx} {t : Expr} {tg : Tg}
def LocF (X : Cx) (x : Str) : Prop := Loc X.env.scope x ∧ (X.fn x = true ∨ X.env.scope.names.lookup x = some .local)
theorem pg_nm {i : Nat} {x : Str} {pos : Pos} (nd : X.N.Nodup) (hi : X.N[i]? = some x) (hl : LocF X x) : PG X (.Name x pos) (tG w (.nm i)) :=
  ⟨fun pins s σ H v u Q I r ⟨ps, H0, ρ, d, ρ', env, rv, e, q⟩ => (pg_name nd hi hl.1 hl.2).run pins s σ H v u Q I r (by
    cases e
    exact q _ (env.set ⟨v, rfl, rv⟩ rfl) fun vs h => wipe_set (h i (by simp [Tg.ids])))⟩
/-- names of a tuple's items -/
inductive NmsOk (X : Cx) : List Nat → List Expr → Prop
  | nil : NmsOk X [] []
  | cons {i : Nat} {x : Str} {pos : Pos} {is : List Nat} {es : List Expr} : X.N[i]? = some x → LocF X x → NmsOk X is es → NmsOk X (i :: is) (.Name x pos :: es)
def tGs (w : Wd) (is : List Nat) : TGs := fun vs σ H Q => ∃ ps H0 ρ ds ρ', EnvOk w ps H0 ρ σ H ∧ RepAll w ps H vs ds ∧ bindAll is ds ρ = some ρ' ∧ ∀ σ', EnvOk w ps H0 ρ' σ' H → (∀ vs, (∀ i ∈ is, i ∈ vs) → L2.wipe σ' vs = L2.wipe σ vs) → Q σ' H
theorem pgs_ok (nd : X.N.Nodup) : ∀ {is : List Nat} {es : List Expr}, NmsOk X is es → PGs X es (tGs w is)
  | _, _, .nil => ⟨fun pins s σ H vs us Q I r ⟨ps, H0, ρ, ds, ρ', env, rv, e, q⟩ => pgs_nil.run pins s σ H vs us Q I r (by
      cases ds with
      | nil => cases e; cases rv; exact ⟨rfl, q σ env fun _ _ => rfl⟩
      | cons _ _ => cases e)⟩
  | i :: is, _, .cons (x := x) (pos := pos) h1 h2 h3 => ⟨fun pins s σ H vs us Q I r ⟨ps, H0, ρ, ds, ρ', env, rv, e, q⟩ => (pgs_cons (pg_name (pos := pos) nd h1 h2.1 h2.2) (pgs_ok nd h3) rfl).run pins s σ H vs us Q I r (by
      cases ds with
      | nil => cases e
      | cons d ds =>
        cases rv with
        | cons r1 r2 =>
          refine ⟨_, _, rfl, ps, H0, ρ.set i (.v d), ds, ρ', env.set ⟨_, rfl, r1⟩ rfl, r2, e, fun σ' env' hw => q σ' env' fun vs h => ?_⟩
          rw [hw vs fun j hj => h j (List.mem_cons_of_mem _ hj)]
          exact wipe_set (h i List.mem_cons_self))⟩
theorem pg_tp (hK : X.K = w.K) (hc : X.calm = true) (nd : X.N.Nodup) {is : List Nat} {es : List Expr} {k : Nat} {pos : Pos} (h : NmsOk X is es) : PG X (.Tuple es k pos) (tG w (.tp is)) := by
  have hl : (assignEach es X.env).length = is.length := by
    clear hc
    induction h with
    | nil => rfl
    | cons _ _ _ ih => show _ + 1 = _ + 1; rw [← ih]
  have hs : (assignEach es X.env).findIdx? (·.1) = none := by
    clear hc hl
    induction h with
    | nil => rfl
    | cons _ _ _ ih =>
      show List.findIdx? _ ((false, _) :: _) = none
      rw [List.findIdx?_cons, ih]
      rfl
  refine ⟨fun pins s σ H v u Q I r ⟨ps, H0, ρ, d, ρ', env, rv, e, q⟩ => (pg_tup hc (pgs_ok (w := w) nd h) hl hs).run pins s σ H v u Q I r ?_⟩
  cases d with
  | tup ds =>
    cases rv with
    | tup h1 h2 =>
      have hlen : ∀ {is : List Nat} {ds : List D} {ρ ρ' : Rho}, bindAll is ds ρ = some ρ' → ds.length = is.length := by
        intro is
        induction is with
        | nil => intro ds ρ ρ' e; cases ds <;> first | rfl | cases e
        | cons i is ih => intro ds ρ ρ' e; cases ds with
          | nil => cases e
          | cons d ds => rw [List.length_cons, List.length_cons, ih e]
      refine ⟨_, _, rfl, by rw [hK]; exact .inl (.inl h1), ?_, ps, H0, ρ, ds, ρ', env, h2, e, q⟩
      rw [h2.length, hlen e]
  | _ => cases e
end
end Pu

/-! ======== Pu9b ======== -/
/-! Dicts whose keys are rows of numbers: what is read. -/
namespace Pu
open PySem PySem.Spec PyProof.Rows L2
section
variable {w : Wd} {ps : Option Addr} {H H' : Hp}
theorem inl_inj : ∀ {a b : List Int}, a.map (Sum.inl (β := Str)) = b.map Sum.inl ↔ a = b := fun {a b} => by
  constructor
  · intro h
    exact (List.map_inj_right (fun x y z => Sum.inl.inj z)).mp h
  · rintro rfl
    rfl
theorem DRep.val {k : List Int} : ∀ {ws : List (List Key × V)} {kvs : List (List Int × D)}, DRep w ps H ws kvs → (∀ d, dlook kvs k = some d → ∃ v, valV ws (k.map Sum.inl) = some v ∧ Rep w ps H v d) ∧ (dlook kvs k = none → valV ws (k.map Sum.inl) = none)
  | _, _, .nil => ⟨fun d h => (nomatch h), fun _ => rfl⟩
  | _, _, .cons (a := a) (b := b) r t => by
    have ih := DRep.val (k := k) t
    by_cases hk : b.1 = k
    · have ha : a.1 = k.map Sum.inl := by rw [r.1, hk]
      have e1 : dlook (b :: ‹List (List Int × D)›) k = some b.2 := by simp [dlook, List.find?_cons, hk]
      refine ⟨fun d h => ?_, fun h => ?_⟩
      · rw [e1] at h
        cases h
        exact ⟨_, valV_pos ha, r.2⟩
      · rw [e1] at h
        cases h
    · have ha : ¬ a.1 = k.map Sum.inl := by rw [r.1]; exact fun z => hk (inl_inj.mp z)
      have e1 : dlook (b :: ‹List (List Int × D)›) k = dlook ‹List (List Int × D)› k := by simp [dlook, List.find?_cons, hk]
      rw [e1, valV_neg ha]
      exact ih
theorem DRep.isSome {k : List Int} {ws : List (List Key × V)} {kvs : List (List Int × D)} (h : DRep w ps H ws kvs) : (valV ws (k.map Sum.inl)).isSome = (dlook kvs k).isSome := by
  cases e : dlook kvs k with
  | none => rw [h.val.2 e]; rfl
  | some d =>
    obtain ⟨v, e2, _⟩ := h.val.1 d e
    rw [e2]; rfl
theorem DRep.of_dic : ∀ {ws : List (List Key × V)} {ks : List (List Int)} {ds : List D}, ws.map (·.1) = ks.map (·.map Sum.inl) → RepAll w ps H (ws.map (·.2)) ds → DRep w ps H ws (ks.zip ds)
  | [], [], ds, _, _ => .nil
  | [], _ :: _, _, h, _ => by cases h
  | _ :: _, [], _, h, _ => by cases h
  | a :: ws, k :: ks, ds, h, r => by
    cases r with
    | cons r1 r2 =>
      rw [List.map_cons, List.map_cons] at h
      injection h with h1 h2
      exact .cons ⟨h1, r1⟩ (DRep.of_dic h2 r2)
theorem ints_all : ∀ {ds : List D} {k : List Int}, intsD ds = some k → ds = k.map D.int
  | [], k, h => by cases h; rfl
  | .int i :: ds, k, h => by
    have h' : (intsD ds).map (i :: ·) = some k := h
    cases e : intsD ds with
    | none => rw [e] at h'; cases h'
    | some l =>
      rw [e] at h'
      cases h'
      rw [ints_all e]
      rfl
  | .non :: _, _, h => by cases h
  | .bl _ :: _, _, h => by cases h
  | .str _ :: _, _, h => by cases h
  | .tup _ :: _, _, h => by cases h
  | .lst _ :: _, _, h => by cases h
  | .fn _ :: _, _, h => by cases h
  | .ins _ _ :: _, _, h => by cases h
  | .st :: _, _, h => by cases h
  | .scr _ :: _, _, h => by cases h
  | .dic _ _ :: _, _, h => by cases h
theorem rep_ints : ∀ {k : List Int} {vs : List V}, RepAll w ps H vs (k.map D.int) → vs = k.map V.int
  | [], _, h => by cases h; rfl
  | i :: k, _, h => by
    cases h with
    | cons r t =>
      cases r
      rw [rep_ints t]
      rfl
/-- a datum that is a key lies as a key -/
theorem key_rep {y : D} {v : V} {k : List Int} (r : Rep w ps H v y) (e : keyOf y = some k) : ∃ b, v = .ref b ∧ H b = some (.tup ((k.map Sum.inl).map kV)) := by
  cases y with
  | tup ds =>
    cases r with
    | tup h1 h2 =>
      have e' := ints_all (show intsD ds = some k from e)
      subst e'
      have e2 := rep_ints h2
      subst e2
      refine ⟨_, rfl, ?_⟩
      rw [h1, List.map_map]
      rfl
  | _ => cases e
theorem keyD_rep {k : List Int} {b : Addr} (h : H b = some (.tup ((k.map Sum.inl).map kV))) : Rep w ps H (.ref b) (keyD k) := by
  refine .tup h ?_
  rw [List.map_map]
  clear h
  induction k with
  | nil => exact .nil
  | cons i k ih => exact .cons (.int i) ih
/-- a dict by a slot -/
theorem dict_at {ρ : Rho} {σ : L2.St} {H0 : Hp} {i : Nat} {kvs : List (List Int × D)} (env : EnvOk w ps H0 ρ σ H) (h : dictAt ρ i = some kvs) : ∃ p ws, σ[i]? = some (some (.ref p)) ∧ DRep w ps H ws kvs ∧ ∀ H', Keep ps H H' → Rd H' p (.dT ws) := by
  unfold dictAt at h
  split at h
  · rename_i l e
    cases h
    obtain ⟨p, ws, es, hp, r, n⟩ := env.slot i _ e
    refine ⟨p, ws, es, r, fun H' k => .inl ?_⟩
    rcases k _ _ hp with z | ⟨_, xs, z⟩
    · exact z
    · cases z
  · rename_i ks ds e
    cases h
    obtain ⟨v, es, rv⟩ := env.slot i _ e
    cases rv with
    | dic h1 h2 h3 => exact ⟨_, _, es, .of_dic h2 h3, fun H' k => .inr ⟨_, (k.kd (w := w)) _ _ h1 trivial⟩⟩
  · cases h
theorem onD_st {α : Type} {W : XK} {ρ : Rho} {i : Nat} {f : List (List Int × D) → R α} {F : α → Sx → Hp → Prop} (h : Pst w ps W (onD ρ i f) H F) : ∃ kvs, dictAt ρ i = some kvs ∧ Pst w ps W (f kvs) H F := by
  unfold onD at h
  split at h
  · exact ⟨_, by assumption, h⟩
  · exact h.elim
theorem onK_st {α : Type} {W : XK} {y : D} {f : List Int → R α} {F : α → Sx → Hp → Prop} (h : Pst w ps W (onK y f) H F) : ∃ k, keyOf y = some k ∧ Pst w ps W (f k) H F := by
  unfold onK at h
  split at h
  · exact ⟨_, by assumption, h⟩
  · exact h.elim
end
section
variable {w : Wd} {W : XK} {X : Cx} {pos p q r : Pos} {m : Md} {i : Nat} {y : Str} {a b : Expr} {da db : Rho → Sx → R D}
theorem ok_dix (hu : X.A.units + 66 < cLine) (hs : slB X.N X.env.scope i y = true) (hz : (match a with | .Slice .. => false | _ => true) = true) (ha : PE X a (tE w W 0 da)) :
    PE X (.Subscript (.Name y p) a pos) (tE w W m fun ρ S => onlyNew m (onD ρ i fun kvs => (da ρ S).bind fun y S => onK y fun k => R.of S (dlook kvs k))) := by
  obtain ⟨h1, h2, h3, h4⟩ := sl_of hs
  refine peOld (de := fun ρ S => onD ρ i fun kvs => (da ρ S).bind fun y S => onK y fun k => R.of S (dlook kvs k)) (peImp (pe_dget (by omega) (pe_var (pos := p) h1 h2 h3 h4) ha (plainIx hz)) ?_) m
  rintro σ H Q ⟨ps, H0, ρ, S, env, st, q⟩
  obtain ⟨kvs, e1, q⟩ := onD_st q
  obtain ⟨x, ws, es, dr, rd⟩ := dict_at env e1
  refine ⟨.ref x, es, ps, H0, ρ, S, env, st, step Ret.mon q fun d S1 v H1 k1 st1 r1 q1 => ?_⟩
  obtain ⟨k, e2, q2⟩ := onK_st q1
  obtain ⟨d, e3, q3⟩ := R.of_st q2
  obtain ⟨v2, e4, r4⟩ := dr.val.1 d e3
  obtain ⟨bb, rfl, hb⟩ := key_rep r1 e2
  exact ⟨x, v2, rfl, .inr ⟨ws, _, bb, rd H1 k1, rfl, hb, e4.symm⟩, q3 v2 H1 Keep.refl st1 (r4.mono k1.kd)⟩
theorem ok_dgd (hu : X.A.units + 66 < cLine) (hs : slB X.N X.env.scope i y = true) (hl : (q.endLine == r.line) = true) (ns : NS [a, b]) (ha : PE X a (tE w W 0 da)) (hb : PE X b (tE w W 0 db)) :
    PE X (.Call (.Attribute (.Name y p) "get" q) [a, b] [] r) (tE w W m fun ρ S => onlyNew m (onD ρ i fun kvs => (da ρ S).bind fun y S => (db ρ S).bind fun z S => onK y fun k => .ok ((dlook kvs k).getD z) S)) := by
  obtain ⟨h1, h2, h3, h4⟩ := sl_of hs
  have M : M2 X (.Name y p) "get" q a b r := ⟨rfl, by rw [ns.star, ns.tail.star]; rfl, hl, by rw [ns.star, ns.tail.star]; rfl⟩
  refine peOld (de := fun ρ S => onD ρ i fun kvs => (da ρ S).bind fun y S => (db ρ S).bind fun z S => onK y fun k => .ok ((dlook kvs k).getD z) S) (peImp (pe_dget2 (by omega) (pe_var (pos := p) h1 h2 h3 h4) ha hb M) ?_) m
  rintro σ H Q ⟨ps, H0, ρ, S, env, st, q⟩
  obtain ⟨kvs, e1, q⟩ := onD_st q
  obtain ⟨x, ws, es, dr, rd⟩ := dict_at env e1
  refine ⟨.ref x, es, x, rfl, .inr ⟨ws, rd H Keep.refl⟩, ps, H0, ρ, S, env, st, step Ret.mon q fun d S1 v H1 k1 st1 r1 q1 => ⟨ps, H0, ρ, S1, env.mono k1, st1, step Ret.mon q1 fun d2 S2 v2 H2 k2 st2 r2 q2 => ?_⟩⟩
  obtain ⟨k, e2, q3⟩ := onK_st q2
  have k12 := k1.trans k2
  obtain ⟨bb, rfl, hbb⟩ := key_rep (Rep.mono k2.kd r1) e2
  refine ⟨valV ws (k.map Sum.inl), .inr ⟨ws, _, bb, rd H2 k12, rfl, hbb, rfl⟩, (show Ret w ps 0 Q ((dlook kvs k).getD d2) S2 H2 from q3) _ H2 Keep.refl st2 ?_⟩
  cases e : dlook kvs k with
  | none =>
    rw [dr.val.2 e]
    exact r2
  | some d3 =>
    obtain ⟨v3, e3, r3⟩ := dr.val.1 d3 e
    rw [e3]
    exact r3.mono k12.kd
theorem din_im {n : Bool} {ho : Bool} : ∀ σ H Q, tE w W 0 (fun ρ S => onD ρ i fun kvs => (da ρ S).bind fun y S => onK y fun k => .ok (.bl (if n then !(dlook kvs k).isSome else (dlook kvs k).isSome)) S) σ H Q →
    (if n then tDNotIn (tE w W 0 da) (tVar i) else tDIn (tE w W 0 da) (tVar i)) σ H Q := by
  rintro σ H Q ⟨ps, H0, ρ, S, env, st, q⟩
  obtain ⟨kvs, e1, q⟩ := onD_st q
  obtain ⟨x, ws, es, dr, rd⟩ := dict_at env e1
  cases n with
  | true =>
    refine ⟨ps, H0, ρ, S, env, st, step Ret.mon q fun d S1 v H1 k1 st1 r1 q1 => ?_⟩
    obtain ⟨k, e2, q3⟩ := onK_st q1
    obtain ⟨bb, rfl, hbb⟩ := key_rep r1 e2
    refine ⟨.ref x, es, x, valV ws (k.map Sum.inl), rfl, .inr ⟨ws, _, bb, rd H1 k1, rfl, hbb, rfl⟩, ?_⟩
    have h : Q (.bl (!(dlook kvs k).isSome)) H1 := (show Ret w ps 0 Q (.bl (!(dlook kvs k).isSome)) S1 H1 from q3) _ H1 Keep.refl st1 (.bl _)
    rw [dr.isSome]
    exact h
  | false =>
    refine ⟨ps, H0, ρ, S, env, st, step Ret.mon q fun d S1 v H1 k1 st1 r1 q1 => ?_⟩
    obtain ⟨k, e2, q3⟩ := onK_st q1
    obtain ⟨bb, rfl, hbb⟩ := key_rep r1 e2
    refine ⟨.ref x, es, x, valV ws (k.map Sum.inl), rfl, .inr ⟨ws, _, bb, rd H1 k1, rfl, hbb, rfl⟩, ?_⟩
    have h : Q (.bl ((dlook kvs k).isSome)) H1 := (show Ret w ps 0 Q (.bl ((dlook kvs k).isSome)) S1 H1 from q3) _ H1 Keep.refl st1 (.bl _)
    rw [dr.isSome]
    exact h
theorem pc_dinB {n : Bool} {o : CmpOp} (hu : X.A.units + 66 < cLine) (ho : (match o with | .In => !n | .NotIn => n | _ => false) = true) (hs : slB X.N X.env.scope i y = true) (ha : PE X a (tE w W 0 da)) :
    PC X o a (.Name y p) (if n then tDNotIn (tE w W 0 da) (tVar i) else tDIn (tE w W 0 da) (tVar i)) := by
  obtain ⟨h1, h2, h3, h4⟩ := sl_of hs
  cases n with
  | true =>
    cases o <;> first | exact pc_dnotin (by omega) ha (pe_var h1 h2 h3 h4) | cases ho
  | false =>
    cases o <;> first | exact pc_din (by omega) ha (pe_var h1 h2 h3 h4) | cases ho
theorem ok_din {n : Bool} {o : CmpOp} (hu : X.A.units + 66 < cLine) (ho : (match o with | .In => !n | .NotIn => n | _ => false) = true) (hs : slB X.N X.env.scope i y = true) (ha : PE X a (tE w W 0 da)) :
    PE X (.Compare a [o] [.Name y p] pos) (tE w W m fun ρ S => onlyNew m (onD ρ i fun kvs => (da ρ S).bind fun y S => onK y fun k => .ok (.bl (if n then !(dlook kvs k).isSome else (dlook kvs k).isSome)) S)) :=
  peOld (de := fun ρ S => onD ρ i fun kvs => (da ρ S).bind fun y S => onK y fun k => .ok (.bl (if n then !(dlook kvs k).isSome else (dlook kvs k).isSome)) S) (peImp (pe_cmp (pc_dinB hu ho hs ha) (noSet_mark rfl)) (din_im (ho := true))) m
theorem ot_din {n : Bool} {o : CmpOp} (hu : X.A.units + 66 < cLine) (ho : (match o with | .In => !n | .NotIn => n | _ => false) = true) (hs : slB X.N X.env.scope i y = true) (ha : PE X a (tE w W 0 da)) :
    PT X (.Compare a [o] [.Name y p] pos) (tT w W fun ρ S => truth (onlyNew 0 (onD ρ i fun kvs => (da ρ S).bind fun y S => onK y fun k => .ok (.bl (if n then !(dlook kvs k).isSome else (dlook kvs k).isSome)) S))) :=
  ot_of (d := fun ρ S => onD ρ i fun kvs => (da ρ S).bind fun y S => onK y fun k => .ok (.bl (if n then !(dlook kvs k).isSome else (dlook kvs k).isSome)) S) (pt_cmp (pc_dinB hu ho hs ha) (noSet_mark rfl)) (din_im (ho := true))
theorem DRep.length {ps : Option Addr} {H : Hp} {ws : List (List Key × V)} {kvs : List (List Int × D)} (h : DRep w ps H ws kvs) : ws.length = kvs.length := Paired.length h
theorem ok_dlen (hg : Gl X "len") (hmg : X.mg "len" = none) (hs : slB X.N X.env.scope i y = true) :
    PE X (.Call (.Name "len" q) [.Name y p] [] pos) (tE w W m fun ρ S => onlyNew m (match ρ[i]? with | some (.dd kvs) => .ok (.int kvs.length) S | _ => .stuck)) := by
  obtain ⟨h1, h2, h3, h4⟩ := sl_of hs
  refine peOld (de := fun ρ S => match ρ[i]? with | some (.dd kvs) => .ok (.int kvs.length) S | _ => .stuck) (peImp (pe_callB call_len_dT hg hmg rfl (pa_cons (pe_var (pos := p) h1 h2 h3 h4) pa_nil)) ?_) m
  rintro σ H Q ⟨ps, H0, ρ, S, env, st, q⟩
  dsimp only at q
  split at q
  · rename_i kvs e
    obtain ⟨x, ws, es, hp, r, n⟩ := env.slot i _ e
    refine ⟨.ref x, es, x, ws, rfl, hp, ?_⟩
    rw [r.length]
    exact (show Ret w ps 0 Q (.int kvs.length) S H from q) _ H Keep.refl st (.int _)
  · exact q.elim
theorem keys_rep {ps : Option Addr} {H : Hp} : ∀ {ws : List (List Key × V)} {kvs : List (List Int × D)} {bs : List Addr}, DRep w ps H ws kvs → IsKeys H ws bs → RepAll w ps H (bs.map V.ref) (kvs.map fun kv => keyD kv.1)
  | _, _, _, .nil, .nil => .nil
  | _, _, _, .cons r t, .cons k u => .cons (keyD_rep (by rw [← r.1]; exact k)) (keys_rep t u)
theorem ok_dls (hc : X.calm = true) (hg : Gl X "list") (hmg : X.mg "list" = none) (hs : slB X.N X.env.scope i y = true) (hm : m < 3) :
    PE X (.Call (.Name "list" q) [.Name y p] [] pos) (tE w W m fun ρ S => match dictAt ρ i with | some kvs => .ok (.lst (kvs.map fun kv => keyD kv.1)) S | none => .stuck) := by
  obtain ⟨h1, h2, h3, h4⟩ := sl_of hs
  refine peNew (peImp (pe_callTy (call_list_dT hc) hg hmg rfl (pa_cons (pe_var (pos := p) h1 h2 h3 h4) pa_nil)) ?_) m hm
  rintro σ H Q ⟨ps, H0, ρ, S, env, st, q⟩
  dsimp only at q
  split at q
  · rename_i kvs e
    obtain ⟨x, ws, es, dr, rd⟩ := dict_at env e
    refine ⟨.ref x, es, x, ws, rfl, rd H Keep.refl, fun pl bs hn ik => ?_⟩
    exact (show Ret w ps 2 Q _ S H from q) _ _ (Keep.upd hn) (st.upd hn) ⟨pl, _, _, rfl, rfl, st.ne hn, hn, upd_same, (keys_rep dr ik).mono (kd_upd hn)⟩
  · exact q.elim
/-- for k in d, d locked for good -/
theorem ok_dk {tg : Expr} (hs : slB X.N X.env.scope i y = true) : PI X tg (.Name y p) (tI w W m fun ρ S => match ρ[i]? with | some (.v (.dic ks ds)) => .ok (ks.map keyD) S | _ => .stuck) := by
  obtain ⟨h1, h2, h3, h4⟩ := sl_of hs
  refine ⟨fun pins s σ H R' I ⟨ps, H0, ρ, S, env, st, q⟩ => (pi_keys (pe_var (pos := p) h1 h2 h3 h4)).run pins s σ H R' I ?_⟩
  dsimp only at q
  split at q
  · rename_i ks ds e
    obtain ⟨v, es, rv⟩ := env.slot i _ e
    cases rv with
    | dic e1 e2 e3 =>
      rename_i a o ws
      have hl : ws.length = ks.length := by have := congrArg List.length e2; rwa [List.length_map, List.length_map] at this
      refine ⟨.ref a, es, a, o, rfl, .inr ⟨ws, e1, (show ∀ J H', Keep ps H H' → StOk w ps S H' → (ks.map keyD).length ≤ sizeLine → Gives w ps m J (ks.map keyD) H' → R' J H' from q) _ H Keep.refl st ?_ ?_⟩⟩
      · have z : ObjOk X.prog X.w H s.heap a (.frz o (.dT ws)) := I.hok a _ e1
        rw [List.length_map, ← hl]
        exact z.2.1
      · intro H2 rl j
        have hd := rl.kd _ _ e1 trivial
        rw [List.length_map]
        refine ⟨fun hj => ⟨⟨hd, by omega⟩, fun x H' ⟨eH, k, v, qa, e4, e5, e6⟩ => ⟨.inl eH, keyD (ks[j]'hj), by rw [List.getElem?_map, List.getElem?_eq_getElem hj]; rfl, ?_⟩⟩, fun hj => ⟨hd, by omega⟩⟩
        subst eH e5
        refine keyD_rep ?_
        have z : (ws.map (·.1))[j]? = some k := by rw [List.getElem?_map, e4]; rfl
        rw [e2, List.getElem?_map, List.getElem?_eq_getElem hj] at z
        have z' : (ks[j]'hj).map Sum.inl = k := Option.some.inj z
        rw [z']
        exact e6
  · exact q.elim
end
end Pu

/-! ======== Pu9c ======== -/
/-! enumerate and zip. -/
namespace PySem
open Sem (wp)
theorem pu_enumT (l : Addr) (items : Array Value) :
    Meets (Builtin.«enumerate.__new__» ⟨[.type "enumerate", .ref l], []⟩) (fun _ R s => s.heap.IsTuple l items ∧
      R (.ok (.ret (.ref (s.heap.push { cls := .type "tuple_iterator", data := .fields #[.ref l, .int 0 0] }).objs.size)))
        { s with heap := (s.heap.push { cls := .type "tuple_iterator", data := .fields #[.ref l, .int 0 0] }).push { cls := .type "enumerate", data := .fields #[.none, .bool false, .ref s.heap.objs.size, rawInt 0, .none, .none] } }) :=
  .of_wp fun prog w A R s h => by
    obtain ⟨hp, g, d, tk, os⟩ := s; obtain ⟨hl, h⟩ := h
    have hsub := sub_enumerate
    have hL : Heap.IsTuple (Shared.heap ⟨hp, g, d, tk, os⟩) l items := hl
    wp_walk
    refine wpAny_stack_any fun st => wpAny_pure ?_
    split
    · rename_i c _ _ _ _ _
      cases (c == Value.type "enumerate")
      · wp_walk using wpAny_pyIter_tuple hL
        exact ⟨_, rfl, h⟩
      · wp_walk using wpAny_pyIter_tuple hL
        exact ⟨_, rfl, h⟩
    · wp_walk using wpAny_pyIter_tuple hL
      exact ⟨_, rfl, h⟩
theorem pu_call_enumT {prog : Program} {w : World} {A : Around} {E : Value → Shared → Prop} {s : Shared} {l : Addr} {items : Array Value} {Q : Value → Shared → Prop} (hL : s.heap.IsTuple l items)
    (h : ∀ h', IsEnum h' (s.heap.objs.size + 1) s.heap.objs.size 0 .none → h'.IsTupleIter s.heap.objs.size l 0 → h'.objs.size = s.heap.objs.size + 2 →
      (∀ b o, s.heap.get? b = some o → h'.get? b = some o) → Q (.ref (s.heap.objs.size + 1)) { s with heap := h' }) :
    wpAny (model prog w) A (call (.type "enumerate") [.ref l]) Q E s := by
  refine callType_new F.called_enumerate (by decide) (F.typeCall_enumerate_1 _) (F.newCall_enumerate_1 _) (fun obj => F.args_object_init_2 obj _) F.entry_enumerate_new
    (pu_enumT l items) ⟨hL, ?_⟩
  have hz : (s.heap.push { cls := .type "tuple_iterator", data := .fields #[.ref l, .int 0 0] }).objs.size = s.heap.objs.size + 1 := Heap.size_push ..
  show _ ∧ _
  rw [hz]
  have he : IsEnum ((s.heap.push { cls := .type "tuple_iterator", data := .fields #[.ref l, .int 0 0] }).push
      { cls := .type "enumerate", data := .fields #[.none, .bool false, .ref s.heap.objs.size, rawInt 0, .none, .none] }) (s.heap.objs.size + 1) s.heap.objs.size 0 .none := by
    have := Heap.get?_push_size (s.heap.push { cls := .type "tuple_iterator", data := .fields #[.ref l, .int 0 0] })
      (o := { cls := .type "enumerate", data := .fields #[.none, .bool false, .ref s.heap.objs.size, rawInt 0, .none, .none] }) rfl
    rw [hz] at this; exact this
  refine ⟨⟨_, he, rfl⟩, h _ he ⟨_, Heap.get?_push_of_some _ (Heap.get?_push_size _ rfl), rfl, rfl⟩ (by rw [Heap.size_push, hz]) fun b o x => Heap.get?_push_of_some _ (Heap.get?_push_of_some _ x)⟩
end PySem
namespace Pu
open PySem PySem.Spec PyProof.Rows L2
/-- the tuple at a as it stands at each turn, each item in a new pair -/
def IteT (K : PySem.W.Frag) (a : Addr) : It :=
  ⟨fun i H => ∃ (xs : List V) (x : V), SqT K H a xs ∧ xs[i]? = some x, fun i H v H' => ∃ T x, v = .ref T ∧ H T = none ∧ H' = upd H T (.tup [.int (i : Nat), x]) ∧ ∀ xs, SqT K H a xs → xs[i]? = some x, fun i H => ∃ xs : List V, SqT K H a xs ∧ xs.length = i⟩
theorem turn_enumT {P : Program} {w : World} {K : PySem.W.Frag} {elts : List Expr} {kk : Nat} {tpos : Pos} (a e it : Addr) :
    Turn P w K (.Tuple elts kk tpos) (IteT K a) [e, it] e (fun i h => (∃ old, IsEnum h e it ((i : Nat) : Int) old) ∧ h.IsTupleIter it a i ∧ e ≠ it ∧ e ≠ a ∧ it ≠ a) where
  mem := by simp
  obj := fun i h st b hb => by
    obtain ⟨⟨old, he⟩, ⟨o, ho, hc, hd⟩, _⟩ := st
    have e' : b = e ∨ b = it := by simpa using hb
    rcases e' with z | z
    · rw [z]; exact ⟨_, he, fun v q => nomatch q⟩
    · rw [z]; exact ⟨o, ho, fun v q => by rw [hd] at q; cases q⟩
  keep := fun i h h' st k => let ⟨⟨old, he⟩, hi, hne⟩ := st; ⟨⟨old, k e (by simp) _ he⟩, hi.at fun o q => k it (by simp) o q, hne⟩
  item := by
    intro X hP hw hK hc i pins s σ H E I hf st hg
    subst hP hw hK
    obtain ⟨⟨old, he⟩, hit, hne, hea, hia⟩ := st
    obtain ⟨xs, x, hq, hx⟩ := hg
    obtain ⟨its, rv, p, hz⟩ := I.tuple hq
    obtain ⟨u, hu, ru⟩ := rv.get hx
    have hel : e < s.heap.objs.size := Heap.lt_size he
    have hil : it < s.heap.objs.size := by obtain ⟨_, q, _⟩ := hit; exact Heap.lt_size q
    have hlen : i < its.toArray.size := by
      rw [List.size_toArray]
      exact (List.getElem?_eq_some_iff.mp hu).1
    refine wpAny_pyNext_enum_itemC (Draws.tuple (prog := X.prog) (w := X.w) (A := X.A.in1) (I.ok.hd hc) it a (Ne.symm hia) its.toArray) he ⟨hit, p⟩ hlen hne (by simp; exact ⟨hne, hea⟩) fun x' h' tk hPx ho hst' hT hsz hk => ?_
    have ex : x' = u := by
      have h1 : its.toArray[i]? = some x' := hPx
      have h2 : its.toArray[i]? = some u := by simpa using hu
      rw [h1] at h2
      exact Option.some.inj h2
    subst ex
    refine ⟨_, rfl, wpAny_letOwnedTupleGo_enum (s := { s with heap := h', toks := tk + 1 }) ho fun h'' he' sb => ?_⟩
    have hT2 : h''.get? s.heap.objs.size = some { cls := .type "tuple", data := .seq #[.int i tk, x'] } := (sb.2 _ (Nat.ne_of_gt hel)).trans hT
    have new : ObjOk X.prog X.w (upd H s.heap.objs.size (.tup [.int (i : Nat), x])) h'' s.heap.objs.size (.tup [.int (i : Nat), x]) :=
      ⟨by show 2 ≤ sizeLine; decide, [.int i tk, x'], .cons ⟨_, rfl⟩ (.cons ru .nil), ⟨_, hT2, rfl, _, rfl⟩⟩
    have I1 : L2.Inv X pins σ (upd H s.heap.objs.size (.tup [.int (i : Nat), x])) { s with heap := h'', toks := tk + 1 } :=
      I.turnedNew (ch := [e, it]) (fun b ob hb q => (sb.2 b (fun z => hb (by simp [z]))).trans (hk b ob (fun z => hb (by simp [z])) (fun z => hb (by simp [z])) q)) hf (Nat.le_refl _) new
    refine ⟨.ref s.heap.objs.size, _, I1, rfl, ⟨_, x, rfl, I.hok.fresh (Nat.le_refl _), rfl, fun ys hy => ?_⟩, ⟨⟨x', ?_⟩, hst'.1.at fun o q => (sb.2 it (Ne.symm hne)).trans q, hne, hea, hia⟩, fun b hb => ?_⟩
    · rw [I.tuple_inj hy hq]; exact hx
    · have e1 : ((i + 1 : Nat) : Int) = (i : Int) + 1 := by omega
      rw [e1]; exact he'
    · have hb' : b < s.heap.objs.size := by
        have e' : b = e ∨ b = it := by simpa using hb
        rcases e' with z | z
        · rw [z]; exact hel
        · rw [z]; exact hil
      rw [upd_ne (Nat.ne_of_lt hb')]
      exact (hf b hb).1
  done := by
    intro X hP hw hK hc i pins s σ H E I hf st hg
    subst hP hw hK
    obtain ⟨⟨old, he⟩, hit, hne, hea, hia⟩ := st
    obtain ⟨xs, hq, hx⟩ := hg
    obtain ⟨its, rv, p, hz⟩ := I.tuple hq
    obtain ⟨f0, f1, f2, f3, f4, f5⟩ := hf it (by simp)
    have hl := rv.length
    have hlen : i = its.toArray.size := by rw [List.size_toArray]; omega
    exact wpAny_pyNext_enum_endD (Draws.tuple (prog := X.prog) (w := X.w) (A := X.A.in1) (I.ok.hd hc) it a (Ne.symm hia) its.toArray) he (by rw [← hlen]; exact ⟨hit, p⟩) fun h' eb => ⟨rfl, I.turned (t' := s.toks) (fun b o hb q => eb b o hb q) f0 f1 f3 f4 f5⟩
  self := fun A i s Q E st h => let ⟨⟨_, he⟩, _⟩ := st; wpAny_pyIter_enum he h
def iEnumA (K : PySem.W.Frag) (ta : TA) : TI := fun σ H R => ta σ H fun vs H1 => ∃ a xs, vs = [.ref a] ∧ ((SqL K H1 a xs ∧ (xs.length ≤ sizeLine → R (Ite K a) H1)) ∨ (SqT K H1 a xs ∧ (xs.length ≤ sizeLine → R (IteT K a) H1)))
theorem pi_enumA {X : Cx} {e : Expr} {ta : TA} {p pos tpos : Pos} {elts : List Expr} {kk : Nat} (hg : Gl X "enumerate") (hm : X.mg "enumerate" = none) (ha : PA X [e] ta) (hs : starEach [e] X.env = [(false, eval e X.env)]) :
    PI X (.Tuple elts kk tpos) (.Call (.Name "enumerate" p) [e] [] pos) (iEnumA X.K ta) := by
  refine ⟨fun pins s σ H R I h => ?_⟩
  refine Call_ (ld_blt I hg hm boot_enumerate (PyProof.Rows.callWith_type1 (thn (ha.run pos pins s σ H _ I h) fun us s1 ⟨vs, H1, I1, r1, q1⟩ => ?_) hs rfl))
  obtain ⟨a, xs, ex, q⟩ := q1
  subst ex
  cases r1 with
  | cons r rr =>
    cases rr
    cases r
    have fresh : ∀ b, b ∈ [s1.heap.objs.size + 1, s1.heap.objs.size] → FpOk X pins H1 b := fun b hb => by
      have e' : b = s1.heap.objs.size + 1 ∨ b = s1.heap.objs.size := by simpa using hb
      have hle : s1.heap.objs.size ≤ b := by
        rcases e' with z | z
        · rw [z]; exact Nat.le_add_right _ _
        · rw [z]; exact Nat.le_refl _
      exact I1.fpOk hle (I1.hok.fresh hle)
    rcases q with ⟨hq, q⟩ | ⟨hq, q⟩
    · obtain ⟨its, rv, p', hz⟩ := I1.list hq
      refine call_enumerate_list p'.isList fun h' he hit hsz hk => wpAny_pyIter_enum he ?_
      have I2 : L2.Inv X pins σ H1 { s1 with heap := h' } := I1.kept (t' := s1.toks) hk
      exact ⟨s1.heap.objs.size + 1, [s1.heap.objs.size + 1, s1.heap.objs.size], _, _, H1, rfl, I2, turn_enum a (s1.heap.objs.size + 1) s1.heap.objs.size, ⟨⟨.none, he⟩, hit, Nat.succ_ne_self _⟩, fresh, q hz⟩
    · obtain ⟨its, rv, p', hz⟩ := I1.tuple hq
      obtain ⟨o, ho, _⟩ := id p'
      have la : a < s1.heap.objs.size := Heap.lt_size ho
      refine pu_call_enumT p' fun h' he hit hsz hk => wpAny_pyIter_enum he ?_
      have I2 : L2.Inv X pins σ H1 { s1 with heap := h' } := I1.kept (t' := s1.toks) hk
      exact ⟨s1.heap.objs.size + 1, [s1.heap.objs.size + 1, s1.heap.objs.size], _, _, H1, rfl, I2, turn_enumT a (s1.heap.objs.size + 1) s1.heap.objs.size, ⟨⟨.none, he⟩, hit, Nat.succ_ne_self _, Nat.ne_of_gt (Nat.lt_succ_of_lt la), Nat.ne_of_gt la⟩, fresh, q hz⟩
section
variable {w : Wd} {ps : Option Addr} {H H' : Hp} {m : Md}
theorem enumD_get {ds : List D} {i : Nat} {d : D} (h : ds[i]? = some d) : (enumD ds)[i]? = some (.tup [.int i, d]) := by
  unfold enumD
  rw [List.getElem?_map, List.getElem?_zipIdx, h]
  simp
theorem enumD_len {ds : List D} : (enumD ds).length = ds.length := by
  unfold enumD
  rw [List.length_map, List.length_zipIdx]
theorem pair_rep {T : Addr} {x y : V} {a b : D} (n : H T = none) (ra : Rep w ps H x a) (rb : Rep w ps H y b) : Rep w ps (upd H T (.tup [x, y])) (.ref T) (.tup [a, b]) :=
  .tup upd_same (.cons (ra.mono (kd_upd n)) (.cons (rb.mono (kd_upd n)) .nil))
theorem gives_enum {K : PySem.W.Frag} {a : Addr} {vs : List V} {ds : List D} (h : ∀ H2, Rel w ps m H H2 → SqL K H2 a vs) (r : RepAll w ps H vs ds) : Gives w ps m (Ite K a) (enumD ds) H := fun H2 k i => by
  have hs := h H2 k
  have hl := r.length
  rw [enumD_len]
  refine ⟨fun hi => ?_, fun hi => ⟨vs, hs, by omega⟩⟩
  have hv : vs[i]? = some (vs[i]'(by omega)) := List.getElem?_eq_getElem (by omega)
  obtain ⟨d, e, r'⟩ := r.getV hv
  refine ⟨⟨vs, _, hs, hv⟩, fun x H' ⟨T, y, e1, hT, e2, e3⟩ => ⟨.inr ⟨T, _, hT, e2⟩, _, enumD_get e, ?_⟩⟩
  have := (e3 vs hs).symm.trans hv
  cases this
  subst e1 e2
  exact pair_rep hT (.int _) (r'.mono k.kd)
theorem gives_enumT {K : PySem.W.Frag} {a : Addr} {vs : List V} {ds : List D} (h : ∀ H2, Rel w ps m H H2 → SqT K H2 a vs) (r : RepAll w ps H vs ds) : Gives w ps m (IteT K a) (enumD ds) H := fun H2 k i => by
  have hs := h H2 k
  have hl := r.length
  rw [enumD_len]
  refine ⟨fun hi => ?_, fun hi => ⟨vs, hs, by omega⟩⟩
  have hv : vs[i]? = some (vs[i]'(by omega)) := List.getElem?_eq_getElem (by omega)
  obtain ⟨d, e, r'⟩ := r.getV hv
  refine ⟨⟨vs, _, hs, hv⟩, fun x H' ⟨T, y, e1, hT, e2, e3⟩ => ⟨.inr ⟨T, _, hT, e2⟩, _, enumD_get e, ?_⟩⟩
  have := (e3 vs hs).symm.trans hv
  cases this
  subst e1 e2
  exact pair_rep hT (.int _) (r'.mono k.kd)
theorem zipD_get {as bs : List D} {i : Nat} {a b : D} (h1 : as[i]? = some a) (h2 : bs[i]? = some b) : (zipD as bs)[i]? = some (.tup [a, b]) := by
  unfold zipD
  rw [List.getElem?_map]
  have : (as.zip bs)[i]? = some (a, b) := by
    rw [List.getElem?_zip_eq_some]
    exact ⟨h1, h2⟩
  rw [this]
  rfl
theorem zipD_len {as bs : List D} : (zipD as bs).length = min as.length bs.length := by
  unfold zipD
  rw [List.length_map, List.length_zip]
theorem gives_zip {K : PySem.W.Frag} {a b : Addr} {vs us : List V} {as bs : List D} (h : ∀ H2, Rel w ps m H H2 → SqL K H2 a vs) (h' : ∀ H2, Rel w ps m H H2 → SqL K H2 b us) (r : RepAll w ps H vs as) (r' : RepAll w ps H us bs) : Gives w ps m (Itz K a b) (zipD as bs) H := fun H2 k i => by
  have hs := h H2 k
  have hs' := h' H2 k
  have hl := r.length
  have hl' := r'.length
  rw [zipD_len]
  refine ⟨fun hi => ?_, fun hi => ⟨vs, us, hs, hs', by omega⟩⟩
  have hv : vs[i]? = some (vs[i]'(by omega)) := List.getElem?_eq_getElem (by omega)
  have hu : us[i]? = some (us[i]'(by omega)) := List.getElem?_eq_getElem (by omega)
  obtain ⟨d, e, r1⟩ := r.getV hv
  obtain ⟨d', e', r2⟩ := r'.getV hu
  refine ⟨⟨vs, us, _, _, hs, hs', hv, hu⟩, fun x H' ⟨T, y, z, e1, hT, e2, e3, e4⟩ => ⟨.inr ⟨T, _, hT, e2⟩, _, zipD_get e e', ?_⟩⟩
  have := (e3 vs hs).symm.trans hv
  cases this
  have := (e4 us hs').symm.trans hu
  cases this
  subst e1 e2
  exact pair_rep hT (r1.mono k.kd) (r2.mono k.kd)
theorem gives_zipT {K : PySem.W.Frag} {a b : Addr} {vs us : List V} {as bs : List D} (h : ∀ H2, Rel w ps m H H2 → SqT K H2 a vs) (h' : ∀ H2, Rel w ps m H H2 → SqT K H2 b us) (r : RepAll w ps H vs as) (r' : RepAll w ps H us bs) : Gives w ps m (RZ.ItzT K a b) (zipD as bs) H := fun H2 k i => by
  have hs := h H2 k
  have hs' := h' H2 k
  have hl := r.length
  have hl' := r'.length
  rw [zipD_len]
  refine ⟨fun hi => ?_, fun hi => ⟨vs, us, hs, hs', by omega⟩⟩
  have hv : vs[i]? = some (vs[i]'(by omega)) := List.getElem?_eq_getElem (by omega)
  have hu : us[i]? = some (us[i]'(by omega)) := List.getElem?_eq_getElem (by omega)
  obtain ⟨d, e, r1⟩ := r.getV hv
  obtain ⟨d', e', r2⟩ := r'.getV hu
  refine ⟨⟨vs, us, _, _, hs, hs', hv, hu⟩, fun x H' ⟨T, y, z, e1, hT, e2, e3, e4⟩ => ⟨.inr ⟨T, _, hT, e2⟩, _, zipD_get e e', ?_⟩⟩
  have := (e3 vs hs).symm.trans hv
  cases this
  have := (e4 us hs').symm.trans hu
  cases this
  subst e1 e2
  exact pair_rep hT (r1.mono k.kd) (r2.mono k.kd)
theorem rel_refl : Rel w ps m H H := by unfold Rel; split; exact Keep.refl; exact Kd.refl
end
section
variable {w : Wd} {W : XK} {X : Cx} {a b : Expr} {da db : Rho → Sx → R D} {m : Md} {elts : List Expr} {kk : Nat} {p pos tpos : Pos}
theorem ok_enum (hK : X.K = w.K) (hm : m < 2) (hg : Gl X "enumerate") (hmg : X.mg "enumerate" = none) (ns : NS [a]) (ha : PE X a (tE w W m da)) :
    PI X (.Tuple elts kk tpos) (.Call (.Name "enumerate" p) [a] [] pos) (tI w W m fun ρ S => (da ρ S).bind fun x S => (R.of S (itemsD x)).bind fun ds S => .ok (enumD ds) S) :=
  piImp (pi_enumA hg hmg (pa_cons ha pa_nil ns.star) ns.star) fun σ H R' ⟨ps, H0, ρ, S, env, st, q⟩ => by
    rw [Pst.bind] at q
    refine ⟨ps, H0, ρ, S, env, st, Pst.imp q fun d S1 q1 v H1 k1 st1 r1 => ?_⟩
    have q1' : ∃ ds, itemsD d = some ds ∧ ∀ J H', Keep ps H H' → StOk w ps S1 H' → (enumD ds).length ≤ sizeLine → Gives w ps m J (enumD ds) H' → R' J H' := by
      cases hd : itemsD d with
      | none => rw [hd] at q1; exact q1.elim
      | some ds => rw [hd] at q1; exact ⟨ds, rfl, q1⟩
    obtain ⟨ds, e1, q2⟩ := q1'
    cases d with
    | lst l =>
      cases e1
      obtain ⟨a, vs, rfl, r2, h⟩ := seq_rel (ps := ps) (H := H1) (vs := []) (p := 0) (H2 := H1) hm r1
      exact ⟨a, vs, rfl, .inl ⟨Rd.sql (h H1 rel_refl), fun hz => q2 _ _ k1 st1 (by rw [enumD_len, ← r2.length]; exact hz) (gives_enum (fun H2 k => Rd.sql (h H2 k)) r2)⟩⟩
    | tup l =>
      cases e1
      obtain ⟨a, vs, rfl, r2, h⟩ := tup_rel (ps := ps) (H := H1) hm r1
      rw [← hK] at h
      exact ⟨a, vs, rfl, .inr ⟨h H1 rel_refl, fun hz => q2 _ _ k1 st1 (by rw [enumD_len, ← r2.length]; exact hz) (gives_enumT h r2)⟩⟩
    | _ => cases e1
def zipM (x y : D) (S : Sx) : R (List D) := match x, y with
    | .tup a, .tup b => .ok (zipD a b) S
    | .lst a, .lst b => .ok (zipD a b) S
    | _, _ => .stuck
theorem zip_cons {w : Wd} {W : XK} {ps : Option Addr} {H : Hp} {ρ : Rho} {S : Sx} {F : List D → Sx → Hp → Prop} {G : List D → Sx → Hp → Prop} {da db : Rho → Sx → R D} (q : Pst w ps W ((da ρ S).bind fun x S => (db ρ S).bind fun y S => zipM x y S) H F)
    (i : ∀ x y S ds, zipM x y S = .ok ds S → F ds S H → G [x, y] S H) : Pst w ps W ((da ρ S).bind fun d S => ((db ρ S).bind fun d S => (R.ok [] S).bind fun ds S => .ok (d :: ds) S).bind fun ds S => .ok (d :: ds) S) H G := by
  cases h1 : da ρ S with
  | ok x S1 =>
    rw [h1] at q
    have q : Pst w ps W ((db ρ S1).bind fun y S => zipM x y S) H F := q
    show Pst w ps W (((db ρ S1).bind fun d S => (R.ok [] S).bind fun ds S => .ok (d :: ds) S).bind fun ds S => .ok (x :: ds) S) H G
    cases h2 : db ρ S1 with
    | ok y S2 =>
      rw [h2] at q
      have q : Pst w ps W (zipM x y S2) H F := q
      cases h3 : zipM x y S2 with
      | ok ds S3 =>
        have e : S3 = S2 := by
          unfold zipM at h3
          split at h3 <;> cases h3 <;> rfl
        subst e
        rw [h3] at q
        exact i x y _ ds h3 q
      | exc c p S3 => unfold zipM at h3; split at h3 <;> cases h3
      | stuck => rw [h3] at q; exact q.elim
    | exc c p S2 => rw [h2] at q; exact q
    | stuck => rw [h2] at q; exact q.elim
  | exc c p S1 => rw [h1] at q; exact q
  | stuck => rw [h1] at q; exact q.elim
def iZipB (K : PySem.W.Frag) (ta : TA) : TI := fun σ H R => ta σ H fun vs H1 => ∃ a b xs ys, vs = [.ref a, .ref b] ∧ ((SqL K H1 a xs ∧ SqL K H1 b ys ∧ (xs.length ≤ sizeLine → R (Itz K a b) H1)) ∨ (SqT K H1 a xs ∧ SqT K H1 b ys ∧ (xs.length ≤ sizeLine → R (RZ.ItzT K a b) H1)))
theorem pi_zipB {X : Cx} {e e2 : Expr} {ta : TA} {p pos tpos : Pos} {elts : List Expr} {kk : Nat} (hg : Gl X "zip") (hm : X.mg "zip" = none) (ha : PA X [e, e2] ta)
    (hs : starEach [e, e2] X.env = (false, eval e X.env) :: starEach [e2] X.env) (hpl : (backTo pos (starEach [e2] X.env)).any (·.1) = false) :
    PI X (.Tuple elts kk tpos) (.Call (.Name "zip" p) [e, e2] [] pos) (iZipB X.K ta) := by
  refine ⟨fun pins s σ H R I h => ?_⟩
  refine Call_ (ld_blt I hg hm PyProof.Rows.boot_zip (PyProof.Rows.callWith_type1 (thn (ha.run pos pins s σ H _ I h) fun us s1 ⟨vs, H1, I1, r1, q1⟩ => ?_) hs hpl))
  obtain ⟨a, b, xs, ys, ex, q1⟩ := q1
  subst ex
  cases r1 with
  | cons r rr =>
    cases rr with
    | cons r' rr =>
      cases rr
      cases r
      cases r'
      have fresh5 : ∀ c, c ∈ [s1.heap.objs.size + 4, s1.heap.objs.size + 2, s1.heap.objs.size + 3, s1.heap.objs.size, s1.heap.objs.size + 1] → FpOk X pins H1 c := fun c hcm => by
        have e' : c = s1.heap.objs.size + 4 ∨ c = s1.heap.objs.size + 2 ∨ c = s1.heap.objs.size + 3 ∨ c = s1.heap.objs.size ∨ c = s1.heap.objs.size + 1 := by simpa using hcm
        have hle : s1.heap.objs.size ≤ c := by
          rcases e' with z | z | z | z | z <;> rw [z] <;> omega
        exact I1.fpOk hle (I1.hok.fresh hle)
      rcases q1 with ⟨hqx, hqy, q⟩ | ⟨hqx, hqy, q⟩
      · obtain ⟨its, rv, p1, hz1⟩ := I1.list hqx
        obtain ⟨its2, rv2, p2, _⟩ := I1.list hqy
        refine call_zip_2 p1.isList p2.isList fun h' hz hTI hTO h1 h2 hsz hk => wpAny_pyIter_zip hz ?_
        have I2 : L2.Inv X pins σ H1 { s1 with heap := h' } := I1.kept (t' := s1.toks) hk
        exact ⟨s1.heap.objs.size + 4, [s1.heap.objs.size + 4, s1.heap.objs.size + 2, s1.heap.objs.size + 3, s1.heap.objs.size, s1.heap.objs.size + 1], _, _, H1, rfl, I2, turn_zip (PySem.W.ktu_apart s1.heap.objs.size a b p1.lt p2.lt), ⟨hz, hTI, ⟨_, _, hTO⟩, h1, h2⟩, fresh5, q hz1⟩
      · obtain ⟨its, rv, p1, hz1⟩ := I1.tuple hqx
        obtain ⟨its2, rv2, p2, _⟩ := I1.tuple hqy
        obtain ⟨o1, ho1, _⟩ := id p1
        obtain ⟨o2, ho2, _⟩ := id p2
        refine RZ.call_zipT (show s1.heap.IsTuple a its.toArray from p1) (show s1.heap.IsTuple b its2.toArray from p2) fun h' hz hTI hTO h1 h2 hsz hk => wpAny_pyIter_zip hz ?_
        have I2 : L2.Inv X pins σ H1 { s1 with heap := h' } := I1.kept (t' := s1.toks) hk
        exact ⟨s1.heap.objs.size + 4, [s1.heap.objs.size + 4, s1.heap.objs.size + 2, s1.heap.objs.size + 3, s1.heap.objs.size, s1.heap.objs.size + 1], _, _, H1, rfl, I2, RZ.turn_zipT (PySem.W.ktu_apart s1.heap.objs.size a b (Heap.lt_size ho1) (Heap.lt_size ho2)), ⟨hz, hTI, ⟨_, _, hTO⟩, h1, h2⟩, fresh5, q hz1⟩
theorem ok_zip (hK : X.K = w.K) (hm : m < 2) (hg : Gl X "zip") (hmg : X.mg "zip" = none) (ns : NS [a, b]) (ha : PE X a (tE w W m da)) (hb : PE X b (tE w W m db)) :
    PI X (.Tuple elts kk tpos) (.Call (.Name "zip" p) [a, b] [] pos) (tI w W m fun ρ S => (da ρ S).bind fun x S => (db ρ S).bind fun y S => zipM x y S) :=
  piImp (pi_zipB hg hmg (ok_cons hm ha (ok_cons hm hb ok_nil ns.tail.star) ns.star) ns.star ns.tail.any) fun σ H R' ⟨ps, H0, ρ, S, env, st, q⟩ => by
    refine ⟨ps, H0, ρ, S, env, st, zip_cons q fun x y S1 ds e q1 vs H1 k1 st1 r1 => ?_⟩
    have q1 : ∀ J H', Keep ps H H' → StOk w ps S1 H' → ds.length ≤ sizeLine → Gives w ps m J ds H' → R' J H' := q1
    cases r1 with
    | cons ra rr =>
      cases rr with
      | cons rb rn =>
        cases rn
        unfold zipM at e
        split at e
        · cases e
          obtain ⟨a, vs, rfl, r2, h⟩ := tup_rel (ps := ps) (H := H1) hm ra
          obtain ⟨b, us, rfl, r3, h'⟩ := tup_rel (ps := ps) (H := H1) hm rb
          rw [← hK] at h h'
          exact ⟨a, b, vs, us, rfl, .inr ⟨h H1 rel_refl, h' H1 rel_refl, fun hz => q1 _ _ k1 st1 (by rw [zipD_len, ← r2.length]; omega) (gives_zipT h h' r2 r3)⟩⟩
        · cases e
          obtain ⟨a, vs, rfl, r2, h⟩ := seq_rel (ps := ps) (H := H1) (vs := []) (p := 0) (H2 := H1) hm ra
          obtain ⟨b, us, rfl, r3, h'⟩ := seq_rel (ps := ps) (H := H1) (vs := []) (p := 0) (H2 := H1) hm rb
          exact ⟨a, b, vs, us, rfl, .inl ⟨Rd.sql (h H1 rel_refl), Rd.sql (h' H1 rel_refl), fun hz => q1 _ _ k1 st1 (by rw [zipD_len, ← r2.length]; omega) (gives_zip (fun H2 k => Rd.sql (h H2 k)) (fun H2 k => Rd.sql (h' H2 k)) r2 r3)⟩⟩
        · cases e
end
end Pu

/-! ======== Pu10 ======== -/
/-! List comprehensions. -/
namespace Pu
open PySem PySem.Spec PyProof.Rows L2
abbrev W0 : XK := fun _ _ _ => False
section
variable {w : Wd} {ps : Option Addr} {H : Hp}
theorem noX_st {α : Type} {W : XK} {r : R α} {F : α → Sx → Hp → Prop} (h : Pst w ps W (noX r) H F) : Pst w ps W0 r H F := by
  cases r with
  | ok a S => exact h
  | exc c p S => exact h.elim
  | stuck => exact h
theorem pts_no {X : Cx} : PTs X [] (tT w W0 fun _ S => .ok true S) :=
  ⟨fun pins s σ H Q I ⟨ps, H0, ρ, S, env, st, q⟩ => pts_nil.run pins s σ H Q I (q H Keep.refl st)⟩
def lcF (tg : Tg) (own : List Nat) (dc : Rho → Sx → R Bool) (de : Rho → Sx → R D) (ρ : Rho) : D → Sx → R (Option D) := fun d S => match tg.bind d (wipe ρ own) with
  | some ρ' => noX (condM (dc ρ' S) (fun S => de ρ' S))
  | none => .stuck
theorem lcGo_exc {f : D → Sx → R (Option D)} (h : ∀ d S c p S', f d S ≠ .exc c p S') : ∀ (l : List D) (S : Sx) (c : Nat) (p : Option D) (S' : Sx), lcGo f l S ≠ .exc c p S'
  | [], S, c, p, S' => fun e => nomatch e
  | d :: l, S, c, p, S' => fun e => by
    have e' : ((f d S).bind fun o S1 => (lcGo f l S1).bind fun r S2 => .ok (match o with | some x => x :: r | none => r) S2) = .exc c p S' := e
    cases h1 : f d S with
    | ok o S1 =>
      rw [h1] at e'
      have e2 : ((lcGo f l S1).bind fun r S2 => R.ok (match o with | some x => x :: r | none => r) S2) = .exc c p S' := e'
      cases h2 : lcGo f l S1 with
      | ok r S2 => rw [h2] at e2; cases e2
      | exc c2 p2 S2 => exact lcGo_exc h l S1 _ _ _ h2
      | stuck => rw [h2] at e2; cases e2
    | exc c2 p2 S2 => exact h _ _ _ _ _ h1
    | stuck => rw [h1] at e'; cases e'
theorem lcF_exc {tg : Tg} {own : List Nat} {dc : Rho → Sx → R Bool} {de : Rho → Sx → R D} {ρ : Rho} : ∀ d S c p S', lcF tg own dc de ρ d S ≠ .exc c p S' := fun d S c p S' e => by
  unfold lcF at e
  split at e
  · unfold noX at e
    split at e
    · cases e
    · rename_i h
      exact h _ _ _ e
  · cases e
theorem im_lc {W : XK} {tg : Tg} {own vs : List Nat} {ds : Rho → Sx → R (List D)} {dc : Rho → Sx → R Bool} {de : Rho → Sx → R D} (ho : vs = own) (hin : ∀ i ∈ tg.ids, i ∈ own) : ∀ σ Hs Q,
    tE w W 2 (fun ρ S => (ds ρ S).bind fun l S => (lcGo (lcF tg own dc de ρ) l S).bind fun r S => .ok (.lst r) S) σ Hs Q → tLc (tI w W 1 ds) (tG w tg) (tT w W0 dc) (tE w W0 0 de) vs σ Hs Q := by
  rintro σ Hs Q ⟨ps, H0, ρ, S, env, st, q⟩
  rw [Pst.bind] at q
  rw [ho]
  refine ⟨ps, H0, ρ, S, env, st, Pst.imp q fun l S1 q1 J H1 k1 st1 hlen gv D hD => ?_⟩
  have npD : ps ≠ some D := st1.ne hD
  have hDH : Hs D = none := k1.back hD npD
  refine ⟨fun i k H2 => k = l.length - i ∧ i ≤ l.length ∧ ∃ S acc rs, Keep ps H1 H2 ∧ StOk w ps S H2 ∧ H2 D = some (.lst acc) ∧ RepAll w ps H2 acc rs ∧ acc.length ≤ i ∧
    Pst w ps W (lcGo (lcF tg own dc de ρ) (l.drop i) S) H2 (fun r S _ => Ret w ps 2 Q (.lst (rs ++ r)) S Hs), ⟨l.length, by omega, by omega, S1, [], [], Keep.upd hD, st1.upd hD, upd_same, .nil, Nat.le_refl _, ?_⟩, ?_⟩
  · rw [List.drop_zero]
    have q1' := q1
    rw [Pst.bind] at q1'
    have mF : Mon ps (fun (r : List Pu.D) (S : Sx) (_ : Hp) => Ret w ps 2 Q (.lst ([] ++ r)) S Hs) := fun _ _ _ _ _ h => h
    refine Pst.mono mF (k1.trans (Keep.upd hD)) (Pst.imp q1' fun r S h => h)
  · rintro i k H2 ⟨rfl, hi, S2, acc, rs, k2, st2, hD2, ra, la, q2⟩
    have gv2 := gv H2 (by show Rel w ps 1 H1 H2; unfold Rel; rw [if_pos rfl]; exact k2) i
    by_cases hlt : i < l.length
    · obtain ⟨go, yl⟩ := gv2.1 hlt
      refine .inr ⟨go, fun H' => (∃ k', k' < l.length - i ∧ (k' = l.length - (i + 1) ∧ i + 1 ≤ l.length ∧ ∃ S acc rs, Keep ps H1 H' ∧ StOk w ps S H' ∧ H' D = some (.lst acc) ∧ RepAll w ps H' acc rs ∧ acc.length ≤ i + 1 ∧
        Pst w ps W (lcGo (lcF tg own dc de ρ) (l.drop (i + 1)) S) H' (fun r S _ => Ret w ps 2 Q (.lst (rs ++ r)) S Hs))), fun H' h => h, fun x H3 hy => ?_⟩
      obtain ⟨hH, d, ed, rd⟩ := yl x H3 hy
      have k3 : Keep ps H2 H3 := by
        rcases hH with rfl | ⟨T, o, hn, rfl⟩
        · exact Keep.refl
        · exact Keep.upd hn
      have st3 : StOk w ps S2 H3 := by
        rcases hH with rfl | ⟨T, o, hn, rfl⟩
        · exact st2
        · exact st2.upd hn
      have hdrop : l.drop i = d :: l.drop (i + 1) := by
        rw [← List.getElem_cons_drop hlt]
        rw [List.getElem?_eq_getElem hlt] at ed
        cases ed
        rfl
      rw [hdrop] at q2
      have q3 : Pst w ps W ((lcF tg own dc de ρ d S2).bind fun o S1 => (lcGo (lcF tg own dc de ρ) (l.drop (i + 1)) S1).bind fun r S2 => .ok (match o with | some x => x :: r | none => r) S2) H2 (fun r S _ => Ret w ps 2 Q (.lst (rs ++ r)) S Hs) := q2
      have mF : Mon ps (fun (r : List Pu.D) (S : Sx) (_ : Hp) => Ret w ps 2 Q (.lst (rs ++ r)) S Hs) := fun _ _ _ _ _ h => h
      have q4 := Pst.mono mF k3 q3
      rw [Pst.bind] at q4
      have k03 : Keep ps Hs H3 := (k1.trans k2).trans k3
      have env3 : EnvOk w ps H0 ρ σ H3 := env.mono k03
      have q5 : ∃ ρ', tg.bind d (wipe ρ own) = some ρ' ∧ Pst w ps W (noX (condM (dc ρ' S2) (fun S => de ρ' S))) H3 (fun o S H => Pst w ps W ((lcGo (lcF tg own dc de ρ) (l.drop (i + 1)) S).bind fun r S2 => .ok (match o with | some x => x :: r | none => r) S2) H (fun r S _ => Ret w ps 2 Q (.lst (rs ++ r)) S Hs)) := by
        cases e : tg.bind d (wipe ρ own) with
        | none =>
          have e2 : lcF tg own dc de ρ d S2 = .stuck := by unfold lcF; rw [e]
          rw [e2] at q4
          exact q4.elim
        | some ρ' =>
          have e2 : lcF tg own dc de ρ d S2 = noX (condM (dc ρ' S2) (fun S => de ρ' S)) := by unfold lcF; rw [e]
          rw [e2] at q4
          exact ⟨ρ', rfl, q4⟩
      obtain ⟨ρ', eb, q6⟩ := q5
      refine ⟨ps, H0, wipe ρ own, d, ρ', env3.wipe own, rd, eb, fun σ2 env4 hw => ⟨?_, ?_⟩⟩
      · rw [hw own hin, wipe_idem]
      · have q7 := noX_st q6
        unfold condM at q7
        refine ⟨ps, H0, ρ', S2, env4, st3, ?_⟩
        rw [Pst.bind] at q7
        refine Pst.imp q7 fun b S5 q8 H5 k5 st5 => ?_
        have mG : Mon (α := Option Pu.D) ps (fun o S H5 => Pst w ps W ((lcGo (lcF tg own dc de ρ) (l.drop (i + 1)) S).bind fun r S2 => .ok (match o with | some x => x :: r | none => r) S2) H5 (fun r S _ => Ret w ps 2 Q (.lst (rs ++ r)) S Hs)) := Mon.pst (f := fun (o : Option Pu.D) S => (lcGo (lcF tg own dc de ρ) (l.drop (i + 1)) S).bind fun r S2 => .ok (match o with | some x => x :: r | none => r) S2) mF
        have hD5 : H5 D = some (.lst acc) := k5.to (k3.to hD2 npD) npD
        cases b with
        | false =>
          have q9 : Pst w ps W ((lcGo (lcF tg own dc de ρ) (l.drop (i + 1)) S5).bind fun r S2 => .ok r S2) H5 (fun r S _ => Ret w ps 2 Q (.lst (rs ++ r)) S Hs) := mG none S5 H3 H5 k5 q8
          rw [Pst.bind] at q9
          exact ⟨l.length - (i + 1), by omega, rfl, hlt, S5, acc, rs, k2.trans (k3.trans k5), st5, hD5, ra.mono (k3.trans k5).kd, by omega, q9⟩
        | true =>
          have q9 : Pst w ps W0 ((de ρ' S5).bind fun x S => .ok (some x) S) H5 (fun o S H5 => Pst w ps W ((lcGo (lcF tg own dc de ρ) (l.drop (i + 1)) S).bind fun r S2 => .ok (match o with | some x => x :: r | none => r) S2) H5 (fun r S _ => Ret w ps 2 Q (.lst (rs ++ r)) S Hs)) := Pst.mono mG k5 q8
          rw [Pst.bind] at q9
          refine ⟨ps, H0, ρ', S5, env4.mono k5, st5, Pst.imp q9 fun y S6 q10 v6 H6 k6 st6 r6 => ?_⟩
          have hD6 : H6 D = some (.lst acc) := k6.to hD5 npD
          have lacc : acc.length < sizeLine := by omega
          have kdw : Kd w H6 (upd H6 D (.lst (acc ++ [v6]))) := fun b o e le => by
            rw [upd_ne (fun z => by subst z; rw [hD6] at e; cases e; exact le)]
            exact e
          refine ⟨acc, hD6, lacc, l.length - (i + 1), by omega, rfl, hlt, S6, acc ++ [v6], rs ++ [y], ?_, ?_, upd_same, ?_, by rw [List.length_append]; exact Nat.add_le_add_right la 1, ?_⟩
          · intro b o e
            rcases (k2.trans (k3.trans (k5.trans k6))) b o e with z | z
            · exact .inl (by rw [upd_ne (ne_of_none e hD)]; exact z)
            · exact .inr z
          · exact st6.mono (fun p vs e1 e2 => by rw [upd_ne (fun z => npD (by rw [e1, z]))]; exact e2) kdw
          · exact ((ra.mono (k3.trans (k5.trans k6)).kd).append (.cons r6 .nil)).mono kdw
          · have q11 : Pst w ps W ((lcGo (lcF tg own dc de ρ) (l.drop (i + 1)) S6).bind fun r S2 => .ok (y :: r) S2) H5 (fun r S _ => Ret w ps 2 Q (.lst (rs ++ r)) S Hs) := q10
            rw [Pst.bind] at q11
            have mH : Mon ps (fun (r : List Pu.D) (S : Sx) (_ : Hp) => Ret w ps 2 Q (.lst (rs ++ [y] ++ r)) S Hs) := fun _ _ _ _ _ h => h
            have q12 : Pst w ps W (lcGo (lcF tg own dc de ρ) (l.drop (i + 1)) S6) H6 (fun r S _ => Ret w ps 2 Q (.lst (rs ++ [y] ++ r)) S Hs) := Pst.mono mH k6 (Pst.imp q11 fun r S h => by
              rw [List.append_assoc]
              exact h)
            cases e : lcGo (lcF tg own dc de ρ) (l.drop (i + 1)) S6 with
            | ok r S7 => rw [e] at q12; exact q12
            | stuck => rw [e] at q12; exact q12.elim
            | exc c p S7 => exact absurd e (lcGo_exc lcF_exc _ _ _ _ _)
    · have e : i = l.length := by omega
      subst e
      refine .inl ⟨gv2.2 rfl, ?_⟩
      rw [List.drop_length] at q2
      have q3 : Ret w ps 2 Q (.lst (rs ++ [])) S2 Hs := q2
      rw [List.append_nil] at q3
      exact q3 _ H2 (k1.trans k2) st2 ⟨D, acc, rs, rfl, rfl, npD, hDH, hD2, ra⟩
theorem ok_lc {W : XK} {X : Cx} {elt tx iter : Expr} {ifs : List Expr} {scope : Scope} {pos : Pos} {tg : Tg} {own : List Nat} {ds : Rho → Sx → R (List D)} {dc : Rho → Sx → R Bool} {de : Rho → Sx → R D} {m : Md} (hm : m < 3)
    (hc : X.calm = true) (nd : X.N.Nodup) (hi : PI X tx iter (tI w W 1 ds)) (ok : blkC X.N X.env.scope scope (ownB X.N own) = true) (ho : (ownB X.N own).map (·.2) = own) (hin : ∀ i ∈ tg.ids, i ∈ own)
    (hg : ∀ (s : Shared) (H : Hp) (C : Addr) (cl : List (Str × Addr)) (fp : List Addr), PG (X.blk s H scope (compEnvC scope cl C X.env) fp) tx (tG w tg))
    (ht : ∀ (s : Shared) (H : Hp) (C : Addr) (cl : List (Str × Addr)) (fp : List Addr), PTs (X.blk s H scope (compEnvC scope cl C X.env) fp) ifs (tT w W0 dc))
    (he : ∀ (s : Shared) (H : Hp) (C : Addr) (cl : List (Str × Addr)) (fp : List Addr), PE (X.blk s H scope (compEnvC scope cl C X.env) fp) elt (tE w W0 0 de))
    (hf : ∀ x, foldedSetIterable iter X.env x = pure x) :
    PE X (.ListComp elt [⟨tx, iter, ifs, 0⟩] scope pos) (tE w W m fun ρ S => (ds ρ S).bind fun l S => (lcGo (lcF tg own dc de ρ) l S).bind fun r S => .ok (.lst r) S) := by
  exact peNew (peImp (pe_lc hc nd hi (blkOk_by ok) hg ht he hf) (im_lc ho hin)) m hm
end
end Pu

/-! ======== Pu11 ======== -/
/-! Fields, isinstance, calls. -/
namespace Pu
open PySem PySem.Spec PyProof.Rows L2
/-- what stands of a class of the text -/
structure ClsF (w : Wd) (c : Nat) : Prop where
  cl : Cls w.K (w.ca c)
  na : ∀ f ∈ w.fl c, NoAttr w.K (w.ca c) f
  ha : PySem.W.findIn w.K (.ref (w.ca c)) "__class__" = some (some (.builtin "object.__class__"))
  hn : PySem.W.specialIn w.K (.builtin "object.__class__") "__get__" = some (some (.builtin "getset_descriptor.__get__"))
  htk : PySem.W.takesIn w.K (.builtin "object.__class__") = some true
  hm : PySem.W.mroIn w.K (w.ca c) (.type "object") = some true
  k1 : ∀ T ∈ (["NoneType", "bool", "int", "str", "tuple", "list"] : List String), PySem.W.kitOne w.K (.type T) (.ref (w.ca c)) = some false
  k2 : ∀ T ∈ (["int", "bool", "str", "list", "tuple"] : List String), PySem.W.kitOne w.K (.ref (w.ca c)) (.type T) = some false
  k3 : ∀ c' < w.nc, PySem.W.kitOne w.K (.ref (w.ca c)) (.ref (w.ca c')) = some (c == c')
section
variable {w : Wd} {W : XK} {X : Cx} {pos p : Pos} {m : Md} {g : G} {a : Expr} {da : Rho → Sx → R D}
theorem fld_rep {ps : Option Addr} {H : Hp} {f : Str} : ∀ {fs : List (Str × V)} {fl : List Str} {ds : List D} {d : D}, fs.map (·.1) = fl → RepAll w ps H (fs.map (·.2)) ds → (fl.zip ds).lookup f = some d → ∃ v, fs.lookup f = some v ∧ Rep w ps H v d
  | [], fl, ds, d, e, r, h => by
    subst e
    simp at h
  | (x, v) :: fs, fl, ds, d, e, r, h => by
    subst e
    cases r with
    | cons r1 r2 =>
      rename_i d1 ds1
      rw [List.map_cons, List.zip_cons_cons, List.lookup_cons] at h
      rw [List.lookup_cons]
      split at h
      · rename_i hx
        cases h
        rw [hx]
        exact ⟨v, rfl, r1⟩
      · rename_i hx
        rw [hx]
        exact fld_rep rfl r2 h
theorem mem_zip {f : Str} {d : D} : ∀ {fl : List Str} {ds : List D}, (fl.zip ds).lookup f = some d → f ∈ fl
  | [], ds, h => by simp at h
  | _ :: _, [], h => by simp at h
  | x :: fl, e :: ds, h => by
    rw [List.zip_cons_cons, List.lookup_cons] at h
    split at h
    · rename_i hx
      rw [beq_iff_eq.mp hx]
      exact List.mem_cons_self
    · exact List.mem_cons_of_mem _ (mem_zip h)
theorem ok_fld (hK : X.K = w.K) (hfl : g.flds = w.fl) (hcf : ∀ c < w.nc, ClsF w c) {f : Str} (hb : attributeBase a f X.env (eval a X.env) = eval a X.env) (ha : PE X a (tE w W 0 da)) :
    PE X (.Attribute a f pos) (tE w W m fun ρ S => onlyNew m ((da ρ S).bind fun x S => R.of S (fldD g x f))) := by
  refine peOld (peImp (pe_fld ha hb) ?_) m
  rintro σ H Q ⟨ps, H0, ρ, S, env, st, q⟩
  refine ⟨ps, H0, ρ, S, env, st, step Ret.mon q fun d S1 v H1 k1 st1 r1 q1 => ?_⟩
  obtain ⟨d2, e, q2⟩ := R.of_st q1
  cases d with
  | ins c ds =>
    cases r1 with
    | ins h0 h1 h2 h3 =>
      have e' : ((w.fl c).zip ds).lookup f = some d2 := by rw [← hfl]; exact e
      have hf : f ∈ w.fl c := mem_zip e'
      obtain ⟨v, hv, rv⟩ := fld_rep h2 h3 e'
      have cf := hcf c h0
      exact ⟨_, _, _, _, v, rfl, h1, by rw [hK]; exact cf.cl, by rw [hK]; exact cf.na f hf, hv, q2 v H1 Keep.refl st1 rv⟩
  | _ => cases e
/-! ### isinstance -/
def tyV : Ty → String
  | .int => "int" | .bool => "bool" | .str => "str" | .list => "list" | .tuple => "tuple" | .own _ => ""
def tyVal (w : Wd) : Ty → Value
  | .own c => .ref (w.ca c)
  | t => .type (tyV t)
def tyV' (w : Wd) : Ty → V
  | .own c => .ref (w.ca c)
  | t => .ty (tyV t)
def ofD (w : Wd) : D → Value
  | .non => .type "NoneType"
  | .bl _ => .type "bool"
  | .int _ => .type "int"
  | .str _ => .type "str"
  | .tup _ => .type "tuple"
  | .lst _ => .type "list"
  | .ins c _ => .ref (w.ca c)
  | _ => .none
theorem tyx (hcf : ∀ c < w.nc, ClsF w c) {ps : Option Addr} {H : Hp} {v : V} {d : D} (r : Rep w ps H v d) {t : Ty} {b : Bool} (h : isTy d t = some b) : TyX w.K H v (ofD w d) := by
  cases r with
  | non => exact .base .non
  | bl b => exact .base (.bl b)
  | int i => exact .base (.int i)
  | str x => exact .base (.str x)
  | tup h1 h2 =>
    exact .base (.tup h1)
  | lst h1 h2 => exact .base (.frz h1)
  | fn k => cases t <;> cases h
  | ins h0 h1 h2 h3 =>
    have cf := hcf _ h0
    exact .base (.ins h1 cf.cl cf.ha cf.hn cf.htk cf.hm)
  | st e => cases t <;> cases h
  | scr e _ => cases t <;> cases h
  | dic e _ _ => cases t <;> cases h
theorem kitB_all : ∀ a ∈ (["NoneType", "bool", "int", "str", "tuple", "list"] : List String), ∀ b ∈ (["int", "bool", "str", "list", "tuple"] : List String), kitB a b = some (a == b || (a == "bool" && b == "int")) := by decide +kernel
theorem kit_isTy (hcf : ∀ c < w.nc, ClsF w c) {ps : Option Addr} {H : Hp} {v : V} {d : D} (r : Rep w ps H v d) {t : Ty} {b : Bool} (ht : ∀ c, t = .own c → c < w.nc) (h : isTy d t = some b) : PySem.W.kitOne w.K (ofD w d) (tyVal w t) = some b := by
  cases t with
  | own c =>
    have cf := hcf c (ht c rfl)
    cases r with
    | non => cases h; exact cf.k1 _ (by decide)
    | bl b => cases h; exact cf.k1 _ (by decide)
    | int i => cases h; exact cf.k1 _ (by decide)
    | str x => cases h; exact cf.k1 _ (by decide)
    | tup h1 h2 => cases h; exact cf.k1 _ (by decide)
    | lst h1 h2 => cases h; exact cf.k1 _ (by decide)
    | fn k => cases h
    | ins h0 h1 h2 h3 => cases h; exact (hcf _ h0).k3 c (ht c rfl)
    | st e => cases h
    | scr e _ => cases h
    | dic e _ _ => cases h
  | _ =>
    cases r with
    | non => cases h; exact kit_ty (kitB_all _ (by decide) _ (by decide))
    | bl b => cases h; exact kit_ty (kitB_all _ (by decide) _ (by decide))
    | int i => cases h; exact kit_ty (kitB_all _ (by decide) _ (by decide))
    | str x => cases h; exact kit_ty (kitB_all _ (by decide) _ (by decide))
    | tup h1 h2 => cases h; exact kit_ty (kitB_all _ (by decide) _ (by decide))
    | lst h1 h2 => cases h; exact kit_ty (kitB_all _ (by decide) _ (by decide))
    | fn k => cases h
    | ins h0 h1 h2 h3 => cases h; exact (hcf _ h0).k2 _ (by decide)
    | st e => cases h
    | scr e _ => cases h
    | dic e _ _ => cases h
theorem kit_isTys (hcf : ∀ c < w.nc, ClsF w c) {ps : Option Addr} {H : Hp} {v : V} {d : D} (r : Rep w ps H v d) : ∀ {ts : List Ty} {b : Bool}, (∀ c, Ty.own c ∈ ts → c < w.nc) → isTys d ts = some b → PySem.W.kitAny w.K (ofD w d) (ts.map (tyVal w)) = some b
  | [], b, _, h => by cases h; rfl
  | t :: ts, b, ht, h => by
    have h' : (isTy d t).bind (fun b => if b then some true else isTys d ts) = some b := h
    cases e : isTy d t with
    | none => rw [e] at h'; cases h'
    | some c =>
      rw [e] at h'
      have k := kit_isTy hcf r (fun c e => ht c (by rw [e]; exact List.mem_cons_self)) e
      show (match PySem.W.kitOne w.K (ofD w d) (tyVal w t) with
        | some true => some true
        | some false => PySem.W.kitAny w.K (ofD w d) (ts.map (tyVal w))
        | none => none) = some b
      rw [k]
      cases c with
      | true => exact h'
      | false => exact kit_isTys hcf r (fun c hc => ht c (List.mem_cons_of_mem _ hc)) h'
theorem pe_ty {nm : Nm} (hb : ∀ x ∈ bltNames, X.mg x = none) (hcl : ∀ c < w.nc, X.mg (nm.cl c) = some (.ref (w.ca c))) {t : Ty} (ht : ∀ c, t = .own c → c < w.nc) {e : Expr} (h : tyB nm X.env.scope t e = true) : PE X e (tC (tyV' w t)) := by
  unfold tyB at h
  split at h
  · rename_i x p
    rw [Bool.and_eq_true, Bool.and_eq_true] at h
    obtain ⟨⟨h1, h2⟩, _⟩ := h
    obtain ⟨g1, g2⟩ := gl_of h2
    have hx := of_decide_eq_true h1
    subst hx
    cases t with
    | own c => exact pe_glob g1 (hcl c (ht c rfl)) rfl g2
    | int => exact pe_bltn (x := "int") (v := .ty "int") g1 (hb _ (by decide)) rfl rfl (by decide) g2
    | bool => exact pe_bltn (x := "bool") (v := .ty "bool") g1 (hb _ (by decide)) rfl rfl (by decide) g2
    | str => exact pe_bltn (x := "str") (v := .ty "str") g1 (hb _ (by decide)) rfl rfl (by decide) g2
    | list => exact pe_bltn (x := "list") (v := .ty "list") g1 (hb _ (by decide)) rfl rfl (by decide) g2
    | tuple => exact pe_bltn (x := "tuple") (v := .ty "tuple") g1 (hb _ (by decide)) rfl rfl (by decide) g2
  · cases h
theorem cls_ty {t : Ty} : ClsV (tyV' w t) (tyVal w t) := by cases t <;> first | exact .ty _ | exact .own _
theorem pa_tys {nm : Nm} (hb : ∀ x ∈ bltNames, X.mg x = none) (hcl : ∀ c < w.nc, X.mg (nm.cl c) = some (.ref (w.ca c))) : ∀ {ts : List Ty} {es : List Expr}, (∀ c, Ty.own c ∈ ts → c < w.nc) → tysB nm X.env.scope ts es = true → PA X es (fun σ H Q => Q (ts.map (tyV' w)) H)
  | [], [], _, _ => pa_nil
  | [], _ :: _, _, h => by cases h
  | _ :: _, [], _, h => by cases h
  | t :: ts, e :: es, ht, h => by
    have h' : (tyB nm X.env.scope t e && tysB nm X.env.scope ts es) = true := h
    rw [Bool.and_eq_true] at h'
    have hs : starEach (e :: es) X.env = (false, eval e X.env) :: starEach es X.env := by
      refine star_cons e es X.env ?_
      rintro x p rfl
      cases h'.1
    exact pa_cons (pe_ty hb hcl (fun c e => ht c (by rw [e]; exact List.mem_cons_self)) h'.1) (pa_tys hb hcl (fun c hc => ht c (List.mem_cons_of_mem _ hc)) h'.2) hs
theorem isTys_head {d : D} {t : Ty} {ts : List Ty} {b : Bool} (h : isTys d (t :: ts) = some b) : ∃ c, isTy d t = some c := by
  have h' : (isTy d t).bind (fun b => if b then some true else isTys d ts) = some b := h
  cases e : isTy d t with
  | none => rw [e] at h'; cases h'
  | some c => exact ⟨c, rfl⟩
/-- isinstance(a, T) -/
theorem ok_isi1 {nm : Nm} (hK : X.K = w.K) (hcf : ∀ c < w.nc, ClsF w c) (hb : ∀ x ∈ bltNames, X.mg x = none) (hcl : ∀ c < w.nc, X.mg (nm.cl c) = some (.ref (w.ca c))) (hg : glB X.env.scope "isinstance" = true) {t : Ty} (ht : ∀ c, t = .own c → c < w.nc) {e : Expr} (h : tyB nm X.env.scope t e = true) (ns : NS [a, e]) (ha : PE X a (tE w W 0 da)) :
    PE X (.Call (.Name "isinstance" p) [a, e] [] pos) (tE w W m fun ρ S => onlyNew m ((da ρ S).bind fun x S => R.of S ((isTys x [t]).map .bl))) := by
  obtain ⟨g1, g2⟩ := gl_of hg
  refine peOld (peImp (pe_callB call_isi g1 (hb _ (by decide)) rfl (pa_cons ha (pa_cons (pe_ty hb hcl ht h) pa_nil ns.tail.star) ns.star) (by decide) g2 ns.star ns.tail.any) ?_) m
  rintro σ H Q ⟨ps, H0, ρ, S, env, st, q⟩
  refine ⟨ps, H0, ρ, S, env, st, step Ret.mon q fun d S1 v H1 k1 st1 r1 q1 => ?_⟩
  obtain ⟨d2, e2, q2⟩ := R.of_st q1
  cases hi : isTys d [t] with
  | none => rw [hi] at e2; cases e2
  | some b =>
    rw [hi] at e2
    cases e2
    obtain ⟨c, hc⟩ := isTys_head hi
    have hcb : c = b := by
      have h' : (isTy d t).bind (fun b => if b then some true else isTys d []) = some b := hi
      rw [hc] at h'
      cases c <;> cases b <;> first | rfl | cases h'
    subst hcb
    rw [hK]
    exact ⟨v, tyV' w t, ofD w d, tyVal w t, c, rfl, cls_ty, tyx hcf r1 hc, kit_isTy hcf r1 ht hc, q2 _ H1 Keep.refl st1 (Rep.bl _)⟩
/-- isinstance(a, (T, U)) -/
theorem ok_isi2 {nm : Nm} (hK : X.K = w.K) (hcf : ∀ c < w.nc, ClsF w c) (hb : ∀ x ∈ bltNames, X.mg x = none) (hcl : ∀ c < w.nc, X.mg (nm.cl c) = some (.ref (w.ca c))) (hg : glB X.env.scope "isinstance" = true) {t0 : Ty} {ts : List Ty} (hlen : (t0 :: ts).length ≤ 100) (ht : ∀ c, Ty.own c ∈ t0 :: ts → c < w.nc) {es : List Expr} {k : Nat} {p3 : Pos} (h : tysB nm X.env.scope (t0 :: ts) es = true) (ns : NS [a, .Tuple es k p3]) (ha : PE X a (tE w W 0 da)) :
    PE X (.Call (.Name "isinstance" p) [a, .Tuple es k p3] [] pos) (tE w W m fun ρ S => onlyNew m ((da ρ S).bind fun x S => R.of S ((isTys x (t0 :: ts)).map .bl))) := by
  obtain ⟨g1, g2⟩ := gl_of hg
  refine peOld (peImp (pe_callB call_isiT g1 (hb _ (by decide)) rfl (pa_cons ha (pa_cons (pe_tup (pa_tys hb hcl ht h)) pa_nil ns.tail.star) ns.star) (by decide) g2 ns.star ns.tail.any) ?_) m
  rintro σ H Q ⟨ps, H0, ρ, S, env, st, q⟩
  refine ⟨ps, H0, ρ, S, env, st, step Ret.mon q fun d S1 v H1 k1 st1 r1 q1 => ⟨?_, fun tp hp => ?_⟩⟩
  · rw [List.length_map]
    exact Nat.le_trans hlen (by decide : 100 ≤ sizeLine)
  obtain ⟨d2, e2, q2⟩ := R.of_st q1
  cases hi : isTys d (t0 :: ts) with
  | none => rw [hi] at e2; cases e2
  | some b =>
    rw [hi] at e2
    cases e2
    obtain ⟨c, hc⟩ := isTys_head hi
    have r2 : Rep w ps (upd H1 tp (.tup ((t0 :: ts).map (tyV' w)))) v d := Rep.mono (kd_upd hp) r1
    have pr : ∀ l : List Ty, Paired ClsV (l.map (tyV' w)) (l.map (tyVal w)) := fun l => by
      induction l with
      | nil => exact .nil
      | cons x xs ih => exact .cons cls_ty ih
    rw [hK]
    exact ⟨v, tp, (t0 :: ts).map (tyV' w), ofD w d, (t0 :: ts).map (tyVal w), b, rfl, upd_same, pr _, tyx hcf r2 hc, kit_isTys hcf r2 ht hi, q2 _ _ (Keep.upd hp) (st1.upd hp) (Rep.bl _)⟩
end
end Pu

/-! ======== Pu12 ======== -/
/-! Calls of the text's own functions and classes. -/
namespace Pu
open PySem PySem.Spec PyProof.Rows L2
def lev (n : Nat) : Nat := 4 * n + 4
/-- what a def promises -/
def spF (w : Wd) (T : Tab) (n k : Nat) : Sp := fun vs H Q E => ∃ ps S ds, RepAll w ps H vs ds ∧ StOk w ps S H ∧ Pst w ps E (run T n false k ds S) H (Ret w ps (if T.fr k then 2 else 0) Q)
/-- what an __init__ promises: the instance, laid by the caller, has its fields -/
def spI (w : Wd) (T : Tab) (n c : Nat) : Sp := fun vs H Q E => ∃ ps S ds x dx us H1, vs = .ref x :: us ∧ H1 x = none ∧ H1 dx = none ∧ dx ≠ x ∧ H = upd (upd H1 dx (.own x)) x (.ins (w.ca c) dx []) ∧ RepAll w ps H1 us ds ∧ StOk w ps S H1 ∧
  Pst w ps E (run T n true c ds S) H1 (fun d S _ => ∀ H', Keep ps H1 H' → StOk w ps S H' → Rep w ps H' (.ref x) d → Q .non H')
structure FnF (w : Wd) (T : Tab) (n : Nat) (P : Program) (wo : World) (mg : Str → Option Value) (base : Heap) (k : Nat) : Prop where
  ex : ∃ fd ps, FnOk P wo w.K mg base (L2.CX P wo) (lev n) (w.fa k) fd ps (spF w T n k) ∧ Binds w.K fd ps []
  kp : PySem.W.keepIn w.K (.ref (w.fa k)) = true
structure IniF (w : Wd) (T : Tab) (n : Nat) (P : Program) (wo : World) (mg : Str → Option Value) (base : Heap) (c : Nat) : Prop where
  ex : ∃ f fd ps, Mk w.K (w.ca c) f ∧ FnOk P wo w.K mg base (L2.CX P wo) (lev n) f fd ps (spI w T n c) ∧ Binds w.K fd ps [] ∧ ∀ fn i, T.fns (T.ini c) = some fn → fn.df = some i → ∃ us, Vals [V.int i] us ∧ Binds w.K fd ps us
section
variable {w : Wd} {W : XK} {X : Cx} {pos p : Pos} {m : Md} {T : Tab} {n : Nat} {l : Expr} {ls : List Expr} {d : Rho → Sx → R (List D)}
theorem passes (tk : Takes X (fun c d _ H => W c d H)) : Passes (L2.CX X.prog X.w) X W := passes_call tk fun _ _ _ _ h => h
theorem RetF {ps : Option Addr} {k : Nat} {H : Hp} {Q : VK} {r : R D} (h : Pst w ps W r H (Ret w ps (if T.fr k then 2 else 0) Q)) : T.fr k = true ∧ Pst w ps W r H (Ret w ps 2 Q) ∨ T.fr k = false ∧ Pst w ps W r H (Ret w ps 0 Q) := by
  cases e : T.fr k with
  | true => rw [e] at h; exact .inl ⟨rfl, h⟩
  | false => rw [e] at h; exact .inr ⟨rfl, h⟩
theorem im_call {k : Nat} : ∀ σ H Q, tE w W (if T.fr k then 2 else 0) (fun ρ S => (d ρ S).bind fun ds S => run T n false k ds S) σ H Q → tCall (spF w T n k) [] W (tA w W 0 d) σ H Q := by
  rintro σ H Q ⟨ps, H0, ρ, S, env, st, q⟩
  rw [Pst.bind] at q
  refine ⟨ps, H0, ρ, S, env, st, Pst.imp q fun ds S1 q1 vs H1 k1 st1 r1 => ?_⟩
  show spF w T n k (vs ++ []) H1 Q W
  rw [List.append_nil]
  exact ⟨ps, S1, ds, r1.all, st1, Pst.mono Ret.mon k1 q1⟩
theorem ok_call (hK : X.K = w.K) {nm : Nm} {k : Nat} (hf : FnF w T n X.prog X.w X.mg X.base k) (hmg : X.mg (nm.fn k) = some (.ref (w.fa k))) (hr : Room (lev n) X.A) (tk : Takes X (fun c d _ H => W c d H)) (hg : glB X.env.scope (nm.fn k) = true) (hm : m < 3) (ns : NS (l :: ls)) (ha : PA X (l :: ls) (tA w W 0 d)) :
    PE X (.Call (.Name (nm.fn k) p) (l :: ls) [] pos) (tE w W m fun ρ S => onlyNew (if T.fr k then 0 else m) ((d ρ S).bind fun ds S => run T n false k ds S)) := by
  obtain ⟨g1, g2⟩ := gl_of hg
  obtain ⟨fd, ps, F, hb⟩ := hf.ex
  rw [← hK] at F hb
  have kp := hf.kp
  rw [← hK] at kp
  have base := peImp (pe_call (p := p) (pos := pos) F hr g1 hmg kp hb .nil (passes tk) ha g2 ns.star ns.tail.any) (im_call (d := d))
  cases e : T.fr k with
  | true =>
    rw [e] at base
    exact peNew base m hm
  | false =>
    rw [e] at base
    exact peOld base m
/-- a local name that holds a def -/
theorem ok_callv (hK : X.K = w.K) {i : Nat} {x : Str} (hf : ∀ k, FnF w T n X.prog X.w X.mg X.base k) (hr : Room (lev n) X.A) (tk : Takes X (fun c d _ H => W c d H)) (hs : slB X.N X.env.scope i x = true) (ns : NS (l :: ls)) (ha : PA X (l :: ls) (tA w W 0 d)) :
    PE X (.Call (.Name x p) (l :: ls) [] pos) (tE w W m fun ρ S => onlyNew m (match ρ[i]? with
      | some (.v (.fn k)) => (d ρ S).bind fun ds S => if T.fr k then .stuck else run T n false k ds S
      | _ => .stuck)) := by
  obtain ⟨h1, h2, h3, h4⟩ := sl_of hs
  refine peOld (de := fun ρ S => match ρ[i]? with
      | some (.v (.fn k)) => (d ρ S).bind fun ds S => if T.fr k then .stuck else run T n false k ds S
      | _ => .stuck) ⟨fun pins s σ H Q I ⟨ps, H0, ρ, S, env, st, q⟩ => ?_⟩ m
  dsimp only at q
  split at q
  · rename_i k e
    obtain ⟨v, es, rv⟩ := env.slot i _ e
    cases rv
    obtain ⟨fd, pl, F, hb⟩ := (hf k).ex
    rw [← hK] at F hb
    have kp := (hf k).kp
    rw [← hK] at kp
    refine wpAny_Call_Name_kw (thn ((pe_var (pos := p) h1 h2 h3 h4).run pins s σ H (fun v H1 => v = .ref (w.fa k) ∧ H1 = H) I ⟨.ref (w.fa k), es, rfl, rfl⟩) fun u s1 ⟨v, H1, I1, r1, q1⟩ => ?_)
    obtain ⟨rfl, rfl⟩ := q1
    cases r1
    have ht : tA w W 0 d σ H1 (fun vs H1 => spF w T n k vs H1 Q W) := by
      rw [Pst.bind] at q
      refine ⟨ps, H0, ρ, S, env, st, Pst.imp q fun ds S1 q1 vs H1 k1 st1 r1 => ?_⟩
      split at q1
      · exact q1.elim
      · rename_i hfr
        refine ⟨ps, S1, ds, r1.all, st1, ?_⟩
        rw [if_neg hfr]
        exact Pst.mono Ret.mon k1 q1
    refine PySem.W.callWith_K (h₀ := X.base) I.ok.mod.kin kp (thn (ha.run pos pins s1 σ _ _ I1 ht) fun us s2 ⟨vs, H2, I2, r, q⟩ => ⟨I2.kIn, ?_⟩) ns.star ns.tail.any
    exact run_fn F hr hb .nil (passes tk) I2 r (by rw [List.append_nil]; exact q)
  · exact q.elim
/-- C(..) -/
theorem ok_make (hK : X.K = w.K) {nm : Nm} {c : Nat} (hf : IniF w T n X.prog X.w X.mg X.base c) (hmg : X.mg (nm.cl c) = some (.ref (w.ca c))) (hr : Room (lev n + 1) X.A) (tk : Takes X (fun c d _ H => W c d H)) (hg : glB X.env.scope (nm.cl c) = true) (ns : NS (l :: ls)) (ha : PA X (l :: ls) (tA w W 0 d)) :
    PE X (.Call (.Name (nm.cl c) p) (l :: ls) [] pos) (tE w W m fun ρ S => onlyNew m ((d ρ S).bind fun ds S => run T n true c ds S)) := by
  obtain ⟨g1, g2⟩ := gl_of hg
  obtain ⟨f, fd, pl, M, F, hb, _⟩ := hf.ex
  rw [← hK] at M F hb
  refine peOld (de := fun ρ S => (d ρ S).bind fun ds S => run T n true c ds S) (peImp (pe_make (p := p) (pos := pos) M F hr g1 hmg hb .nil (passes tk) ha g2 ns.star ns.tail.any) ?_) m
  rintro σ H Q ⟨ps, H0, ρ, S, env, st, q⟩
  rw [Pst.bind] at q
  refine ⟨ps, H0, ρ, S, env, st, Pst.imp q fun ds S1 q1 vs H1 k1 st1 r1 x dx hx hdx hne => ?_⟩
  rw [List.append_nil]
  refine ⟨ps, S1, ds, x, dx, vs, H1, rfl, hx, hdx, hne, rfl, r1.all, st1, Pst.imp (Pst.mono Ret.mon k1 q1) fun d S2 q2 H' k2 st2 r2 => ⟨rfl, q2 _ H' k2 st2 r2⟩⟩
/-- C(..), the last parameter by its default -/
theorem ok_makeD (hK : X.K = w.K) {nm : Nm} {c : Nat} {i : Int} (hf : IniF w T n X.prog X.w X.mg X.base c) (hd : ∃ fn, T.fns (T.ini c) = some fn ∧ fn.df = some i) (hmg : X.mg (nm.cl c) = some (.ref (w.ca c))) (hr : Room (lev n + 1) X.A) (tk : Takes X (fun c d _ H => W c d H)) (hg : glB X.env.scope (nm.cl c) = true) (ns : NS (l :: ls)) (ha : PA X (l :: ls) (tA w W 0 d)) :
    PE X (.Call (.Name (nm.cl c) p) (l :: ls) [] pos) (tE w W m fun ρ S => onlyNew m ((d ρ S).bind fun ds S => run T n true c (ds ++ [.int i]) S)) := by
  obtain ⟨g1, g2⟩ := gl_of hg
  obtain ⟨f, fd, pl, M, F, _, hdf⟩ := hf.ex
  obtain ⟨fn, e1, e2⟩ := hd
  obtain ⟨us, rv, hb⟩ := hdf fn i e1 e2
  rw [← hK] at M F hb
  refine peOld (de := fun ρ S => (d ρ S).bind fun ds S => run T n true c (ds ++ [.int i]) S) (peImp (pe_make (p := p) (pos := pos) M F hr g1 hmg hb rv (passes tk) ha g2 ns.star ns.tail.any) ?_) m
  rintro σ H Q ⟨ps, H0, ρ, S, env, st, q⟩
  rw [Pst.bind] at q
  refine ⟨ps, H0, ρ, S, env, st, Pst.imp q fun ds S1 q1 vs H1 k1 st1 r1 x dx hx hdx hne => ?_⟩
  refine ⟨ps, S1, ds ++ [.int i], x, dx, vs ++ [.int i], H1, rfl, hx, hdx, hne, rfl, r1.all.append (.cons (.int i) .nil), st1, Pst.imp (Pst.mono (Ret.mon (m := 0)) k1 q1) fun d S2 q2 H' k2 st2 r2 => ⟨rfl, q2 _ H' k2 st2 r2⟩⟩
/-- a def's name as a value, a module's number -/
theorem ok_gfn {nm : Nm} {k : Nat} (hmg : X.mg (nm.fn k) = some (.ref (w.fa k))) (hg : glB X.env.scope (nm.fn k) = true) : PE X (.Name (nm.fn k) pos) (tE w W m fun _ S => onlyNew m (.ok (.fn k) S)) := by
  obtain ⟨g1, g2⟩ := gl_of hg
  exact ok_const (pe_glob (v := .ref (w.fa k)) g1 hmg rfl g2) fun _ _ => .fn k
theorem ok_gint {nm : Nm} {k : Nat} {t : Tok} (hmg : X.mg (nm.gi k) = some (.int (T.gint k) t)) (hg : glB X.env.scope (nm.gi k) = true) : PE X (.Name (nm.gi k) pos) (tE w W m fun _ S => onlyNew m (.ok (.int (T.gint k)) S)) := by
  obtain ⟨g1, g2⟩ := gl_of hg
  exact ok_const (pe_glob (v := .int (T.gint k)) g1 hmg ⟨t, rfl⟩ g2) fun _ _ => .int _
end
end Pu

/-! ======== Pu12b ======== -/
/-! sorted(xs, key=f), f a def of the text. -/
namespace Pu
open PySem PySem.Spec PyProof.Rows L2
abbrev inn (X : Cx) : Cx := { X with A := X.A.in1.in1, xe := fun _ _ => False }
section
variable {X : Cx} {pins : List (Addr × Obj)} {σ : L2.St} {H H' : Hp} {s : Shared}
theorem inn_to (I : L2.Inv X pins σ H s) : L2.Inv (inn X) pins σ H s :=
  ⟨⟨I.ok.mod, I.ok.kind, I.ok.glob, I.ok.blt, I.ok.above, I.ok.inj, I.ok.has, I.ok.cab, I.ok.hd, I.ok.frames, I.ok.stk, I.ok.exf, I.ok.bs, I.ok.bsz, I.ok.noex, I.ok.exfs, I.ok.funs, I.ok.frf⟩, I.os, I.bare, I.base, I.loc, I.cell, I.free, I.freeC, I.pin, I.hok, I.len⟩
theorem inn_of (ok : X.Ok) (I : L2.Inv (inn X) pins σ H s) : L2.Inv X pins σ H s := ⟨ok, I.os, I.bare, I.base, I.loc, I.cell, I.free, I.freeC, I.pin, I.hok, I.len⟩
end
section
variable {w : Wd} {X : Cx} {T : Tab} {n : Nat} {pins : List (Addr × Obj)} {σ : L2.St} {H : Hp} {s : Shared} {ps : Option Addr}
theorem key_call (hK : X.K = w.K) {k : Nat} (hf : FnF w T n X.prog X.w X.mg X.base k) (hr : Room (lev n + 2) X.A) (I : L2.Inv (inn X) pins σ H s) {v : V} {u : Value} {d : D} {S : Sx} {Q : VK} (r : RelV v u) (rd : Rep w ps H v d) (st : StOk w ps S H)
    (q : Pst w ps (fun _ _ _ => False) ((gAt T n).call0 k [d] S) H (Ret w ps 0 Q)) : wpAny (model X.prog X.w) X.A.in1.in1 (call (.ref (w.fa k)) [u]) (EP (inn X) pins σ Q) (fun _ _ => False) s := by
  obtain ⟨fd, pl, F, hb⟩ := hf.ex
  rw [← hK] at F hb
  have hx : Passes (L2.CX X.prog X.w) (inn X) (fun _ _ _ => False) := fun _ _ _ _ _ _ _ h => by
    obtain ⟨_, _, _, _, _, _, _, _, _, _, _, _, z⟩ := h
    exact z.elim
  have hr2 : Room (lev n) (inn X).A := by
    have h1 := hr.in1.in1
    exact h1
  unfold G.call0 at q
  by_cases hfr : (gAt T n).fr k = true
  · rw [if_pos hfr] at q
    exact q.elim
  · rw [if_neg hfr] at q
    have hfr' : (if T.fr k = true then 2 else 0) = 0 := if_neg hfr
    exact run_fn (X := inn X) F hr2 hb .nil hx I (.cons r .nil) ⟨ps, S, [d], .cons rd .nil, st, by rw [hfr']; exact q⟩
theorem lcGo_keys {g : G} {k : Nat} : ∀ {ds : List D} {S : Sx} {ks : List D} {S' : Sx}, lcGo (keyF g k) ds S = .ok ks S' → ks.length = ds.length
  | [], _, _, _, h => by cases h; rfl
  | d :: ds, S, ks, S', h => by
    have h' : ((keyF g k d S).bind fun o S1 => (lcGo (keyF g k) ds S1).bind fun r S2 => R.ok (match o with | some x => x :: r | none => r) S2) = .ok ks S' := h
    unfold keyF at h'
    cases h1 : g.call0 k [d] S with
    | ok x S1 =>
      rw [h1] at h'
      have h2 : ((lcGo (keyF g k) ds S1).bind fun r S2 => R.ok (x :: r) S2) = .ok ks S' := h'
      cases h3 : lcGo (keyF g k) ds S1 with
      | ok r S2 =>
        rw [h3] at h2
        cases h2
        rw [List.length_cons, List.length_cons, lcGo_keys h3]
      | exc c p S2 => rw [h3] at h2; cases h2
      | stuck => rw [h3] at h2; cases h2
    | exc c p S1 => rw [h1] at h'; cases h'
    | stuck => rw [h1] at h'; cases h'
/-- where the keys are made: at turn j the keys of the first j items are there -/
structure KAt (w : Wd) (X : Cx) (T : Tab) (n k : Nat) (pins : List (Addr × Obj)) (σ : L2.St) (ps : Option Addr) (H : Hp) (h0 : Heap) (a kS : Addr) (e1 : Nat) (ds : List D) (F : List D → Sx → Hp → Prop) (j : Nat) (s' : Shared) : Prop where
  ex : ∃ (Hj : Hp) (S : Sx) (kA : Array Value) (e : Nat) (ksV : List V) (ks : List D), L2.Inv (inn X) pins σ Hj s' ∧ Keep ps H Hj ∧ StOk w ps S Hj ∧ RepAll w ps Hj ksV ks ∧ Vals ksV kA.toList ∧ ks.length = j ∧ s'.heap.get? kS = some (seqObj "list" kA e) ∧ s'.heap.get? a = some (seqObj "list" #[] e1) ∧
    FpOk (inn X) pins Hj kS ∧ FpOk (inn X) pins Hj a ∧ Pst w ps (fun _ _ _ => False) (lcGo (keyF (gAt T n) k) (ds.drop j) S) Hj (fun r S _ => F (ks ++ r) S H)
theorem bodyStep (hK : X.K = w.K) {k : Nat} (hf : FnF w T n X.prog X.w X.mg X.base k) (hr : Room (lev n + 2) X.A) {h0 : Heap} {a kS : Addr} {e1 : Nat} {vs : List V} {us : List Value} {ds : List D} {F : List D → Sx → Hp → Prop} (hka : kS ≠ a) (hz : us.length ≤ sizeLine) (ok : X.Ok)
    (ra : RepAll w ps H vs ds) (rv : Vals vs us) {j : Nat} {x : Value} {s' : Shared} (hx : us[j]? = some x) (K : KAt w X T n k pins σ ps H h0 a kS e1 ds F j s') {E : Value → Shared → Prop} :
    wpAny (model X.prog X.w) X.A.in1.in1 (call (.ref (w.fa k)) [x]) (fun v s2 => wpAny (model X.prog X.w) X.A.in1.in1 (Builtin.List.listUpdate (.ref kS) (·.push v)) (fun _ s3 => KAt w X T n k pins σ ps H h0 a kS e1 ds F (j + 1) s3) E s2) (fun _ _ => False) s' := by
  obtain ⟨Hj, S, kA, e, ksV, ks, I, kp, st, rk, rkv, hl, nk, na, fk, fa, q⟩ := K.ex
  obtain ⟨v, hv, rx⟩ : ∃ v, vs[j]? = some v ∧ RelV v x := by
    have hj : j < us.length := (List.getElem?_eq_some_iff.mp hx).1
    have hj2 : j < vs.length := by rw [rv.length]; exact hj
    obtain ⟨u, hu, ru⟩ := rv.get (List.getElem?_eq_getElem hj2)
    rw [hx] at hu
    cases hu
    exact ⟨_, List.getElem?_eq_getElem hj2, ru⟩
  obtain ⟨d, hd, rd⟩ := ra.getV hv
  have hjd : j < ds.length := (List.getElem?_eq_some_iff.mp hd).1
  have hdrop : ds.drop j = d :: ds.drop (j + 1) := by
    rw [List.drop_eq_getElem_cons hjd]
    rw [List.getElem?_eq_getElem hjd] at hd
    rw [Option.some.inj hd]
  rw [hdrop] at q
  have q1 : Pst w ps (fun _ _ _ => False) ((keyF (gAt T n) k d S).bind fun o S1 => (lcGo (keyF (gAt T n) k) (ds.drop (j + 1)) S1).bind fun r S2 => R.ok (match o with | some x => x :: r | none => r) S2) Hj (fun r S _ => F (ks ++ r) S H) := q
  unfold keyF at q1
  rw [Pst.bind, Pst.bind] at q1
  have Ip := I.pinned (fp := [kS, a]) (fun b hb => by
    rcases List.mem_cons.mp hb with rfl | hb
    · exact fk
    · rcases List.mem_cons.mp hb with rfl | hb
      · exact fa
      · cases hb) (fun b hb => by
    rcases List.mem_cons.mp hb with rfl | hb
    · exact ⟨_, nk, fun v z => nomatch z⟩
    · rcases List.mem_cons.mp hb with rfl | hb
      · exact ⟨_, na, fun v z => nomatch z⟩
      · cases hb)
  have pk : (kS, seqObj "list" kA e) ∈ (inn X).pn ++ (pins ++ pinsAt [kS, a] s'.heap) := List.mem_append_right _ (List.mem_append_right _ (mem_pinsAt (List.mem_cons_self) nk))
  have pa : (a, seqObj "list" #[] e1) ∈ (inn X).pn ++ (pins ++ pinsAt [kS, a] s'.heap) := List.mem_append_right _ (List.mem_append_right _ (mem_pinsAt (List.mem_cons_of_mem _ List.mem_cons_self) na))
  refine thn (key_call (Q := fun v H2 => ∃ x S1, Keep ps Hj H2 ∧ StOk w ps S1 H2 ∧ Rep w ps H2 v x ∧ Pst w ps (fun _ _ _ => False) ((lcGo (keyF (gAt T n) k) (ds.drop (j + 1)) S1).bind fun r S2 => R.ok (x :: r) S2) Hj (fun r S _ => F (ks ++ r) S H)) hK hf hr Ip rx (Rep.mono kp.kd rd) st ?_) fun u s2 ⟨v2, H2, I2, r2, x2, S1, k2, st2, rep2, q2⟩ => ?_
  · exact Pst.imp q1 fun x S1 h v H2 k2 st2 r2 => ⟨x, S1, k2, st2, r2, h⟩
  · obtain ⟨pk1, pk2, _⟩ := I2.pin _ pk
    obtain ⟨pa1, pa2, _⟩ := I2.pin _ pa
    have I3 := I2.unpinned
    have fk2 : FpOk (inn X) pins H2 kS := ⟨pk2, fk.2⟩
    have fa2 : FpOk (inn X) pins H2 a := ⟨pa2, fa.2⟩
    have hsz : kA.size ≤ sizeLine := by
      have h1 : ksV.length = kA.toList.length := rkv.length
      have h2 : kA.toList.length = kA.size := Array.length_toList
      have h3 := rk.length
      have hj : j < us.length := (List.getElem?_eq_some_iff.mp hx).1
      omega
    have s1 := Heap.SameBut.update s2.heap kS (Obj.mapSeq (·.push u))
    obtain ⟨c2, hc2⟩ : ∃ c2, (s2.heap.update kS (Obj.mapSeq (·.push u))).get? kS = some (seqObj "list" (kA.push u) c2) := ⟨_, get?_update_seq pk1 (·.push u)⟩
    refine listUpdate_at pk1 rfl ?_ hsz (by rw [Array.size_push]; omega)
    obtain ⟨f0, f1, f2, f3, f4, f5⟩ := fk2
    refine ⟨H2, S1, kA.push u, c2, ksV ++ [v2], ks ++ [x2], I3.turned (t' := s2.toks) (fun b o hb q => (s1.2 b hb).trans q) f0 f1 f3 f4 f5, kp.trans k2, st2, (rk.mono k2.kd).append (.cons rep2 .nil), ?_, by rw [List.length_append, hl]; rfl, hc2, (s1.2 a (Ne.symm hka)).trans pa1, ⟨f0, f1, f2, f3, f4, f5⟩, fa2, ?_⟩
    · rw [Array.toList_push]
      exact rkv.append (.cons r2 .nil)
    · rw [Pst.bind] at q2
      have mH : Mon ps (fun (r : List Pu.D) (S : Sx) (_ : Hp) => F ((ks ++ [x2]) ++ r) S H) := fun _ _ _ _ _ h => h
      refine Pst.mono mH k2 (Pst.imp q2 fun r S h => ?_)
      rw [List.append_assoc]
      exact h
def PairMid (w : Wd) (ps : Option Addr) (H : Hp) (u : Value) (p : D × D) : Prop := Mid w ps H u p.1
theorem pair_mids {us : List Value} : ∀ {vs : List V} {us : List Value} {ds ks : List D}, ks.length = ds.length → RepAll w ps H vs ds → Vals vs us → PySem.W.EachIs (PairMid w ps H) us (ds.zip ks)
  | _, _, _, [], h, .nil, .nil => .nil
  | _, _, _, _ :: _, h, .nil, .nil => by cases h
  | _, _, _, [], h, .cons _ _, .cons _ _ => by cases h
  | _, _, _, k :: ks, h, .cons a t, .cons r t' => .cons ⟨_, r, a⟩ (pair_mids (us := us) (by simpa using h) t t')
theorem pair_unmids : ∀ {ps' : List (D × D)} {us : List Value}, PySem.W.EachIs (PairMid w ps H) us ps' → PySem.W.EachIs (Mid w ps H) us (ps'.map (·.1))
  | _, _, .nil => .nil
  | _, _, .cons r t => .cons r (pair_unmids t)
theorem run_sortk (hK : X.K = w.K) (hu : X.A.units + 66 < cLine) {k : Nat} (hf : FnF w T n X.prog X.w X.mg X.base k) (hr : Room (lev n + 2) X.A) {l : Addr} {vs : List V} {ds : List D} {S : Sx} {Q : VK} (I : L2.Inv X pins σ H s) (hl : SqL X.K H l vs) (ra : RepAll w ps H vs ds) (st : StOk w ps S H) {W : XK}
    (q : Pst w ps W (sortkM (gAt T n) k (.lst ds) S) H (Ret w ps 2 Q)) : wpAny (model X.prog X.w) X.A (call (.builtin "sorted") [.ref l] ([Str.ofString "key"].zip [.ref (w.fa k)])) (EP X pins σ Q) X.xe s := by
  have q' : Pst w ps W ((noX (lcGo (keyF (gAt T n) k) ds S)).bind fun ks S' => if sortOk (D.pys ks) then R.ok (.lst (sortBy ds ks)) S' else .stuck) H (Ret w ps 2 Q) := q
  rw [Pst.bind] at q'
  have q0 := noX_st q'
  obtain ⟨us, rv, hli, hz⟩ := I.list hl
  have hzu : us.length ≤ sizeLine := by rw [← rv.length]; exact hz
  show wpAny _ X.A (call (.builtin "sorted") [.ref l] [(Str.ofString "key", .ref (w.fa k))]) _ _ _
  refine PySem.W.sorted_of_sort hli.isList hzu (by first | rfl | kernel_rfl | decide +kernel) (fun x => by first | rfl | kernel_rfl | decide +kernel) fun E' => ?_
  rw [ksk_t1]
  have ho : (PySem.W.copyHeap s.heap us).get? (s.heap.objs.size + 1) = some (seqObj "list" us.toArray 0) := PySem.W.copyHeap_at s.heap us
  obtain ⟨e1, ho1⟩ : ∃ e1, ((PySem.W.copyHeap s.heap us).update (s.heap.objs.size + 1) (Obj.mapSeq fun _ => (#[] : Array Value))).get? (s.heap.objs.size + 1) = some (seqObj "list" #[] e1) := ⟨_, get?_update_seq ho fun _ => #[]⟩
  unfold ksk_tree
  refine wpAny_bind (listItems_at ho rfl ?_)
  refine wpAny_bind (listUpdate_at ho rfl ?_ (by rw [List.size_toArray]; exact hzu) (Nat.zero_le _))
  refine wpAny_bind (seqEpoch_at ho1 rfl ?_)
  refine wpAny_bind (wpAny_newTuple ?_ (by show us.length ≤ _; exact hzu))
  refine wpAny_bind (wpAny_newList ?_ (Nat.zero_le _))
  refine wpAny_holding ?_
  generalize hkS : (((PySem.W.copyHeap s.heap us).update (s.heap.objs.size + 1) (Obj.mapSeq fun _ => (#[] : Array Value))).push (seqObj "tuple" us.toArray 0)).objs.size = kS
  have hsz1 : (PySem.W.copyHeap s.heap us).objs.size = s.heap.objs.size + 2 := by
    unfold PySem.W.copyHeap
    rw [size_push', Heap.size_update, size_push']
  have hkS' : kS = s.heap.objs.size + 3 := by rw [← hkS, size_push', Heap.size_update, hsz1]
  have old : ∀ b o, s.heap.get? b = some o → ((((PySem.W.copyHeap s.heap us).update (s.heap.objs.size + 1) (Obj.mapSeq fun _ => (#[] : Array Value))).push (seqObj "tuple" us.toArray 0)).push (seqObj "list" #[] 0)).get? b = some o := fun b o e =>
    Heap.get?_push_of_some _ (Heap.get?_push_of_some _ ((Heap.get?_update_other _ _ (Ne.symm (Nat.ne_of_lt (Nat.lt_succ_of_lt (Heap.lt_size e))))).trans (PySem.W.copyHeap_old e)))
  have I4 : L2.Inv (inn X) pins σ H { s with heap := (((PySem.W.copyHeap s.heap us).update (s.heap.objs.size + 1) (Obj.mapSeq fun _ => (#[] : Array Value))).push (seqObj "tuple" us.toArray 0)).push (seqObj "list" #[] 0) } := inn_to (I.kept (t' := s.toks) old)
  have fk : FpOk (inn X) pins H kS := (inn_to I).fpOk (by omega) (I.hok.fresh (by omega))
  have fa : FpOk (inn X) pins H (s.heap.objs.size + 1) := (inn_to I).fpOk (Nat.le_succ _) (I.hok.fresh (Nat.le_succ _))
  have hka : kS ≠ s.heap.objs.size + 1 := by omega
  have nk4 : ((((PySem.W.copyHeap s.heap us).update (s.heap.objs.size + 1) (Obj.mapSeq fun _ => (#[] : Array Value))).push (seqObj "tuple" us.toArray 0)).push (seqObj "list" #[] 0)).get? kS = some (seqObj "list" #[] 0) := by
    rw [← hkS]
    exact Heap.get?_push_size _ rfl
  have K0 : KAt w X T n k pins σ ps H s.heap (s.heap.objs.size + 1) kS e1 ds (fun r S H => Pst w ps W (if sortOk (D.pys r) = true then R.ok (.lst (sortBy ds r)) S else .stuck) H (Ret w ps 2 Q)) 0 { s with heap := (((PySem.W.copyHeap s.heap us).update (s.heap.objs.size + 1) (Obj.mapSeq fun _ => (#[] : Array Value))).push (seqObj "tuple" us.toArray 0)).push (seqObj "list" #[] 0) } :=
    ⟨H, S, #[], 0, [], [], I4, Keep.refl, st, .nil, .nil, rfl, nk4, Heap.get?_push_of_some _ (Heap.get?_push_of_some _ ho1), fk, fa, by rw [List.drop_zero]; exact q0⟩
  unfold ksk_rest
  refine wpAny_bind (wpAny_rule ?_)
  first
    | rw [List.forIn_toArray]
    | (rw [← Array.forIn_toList]; simp only [List.toList_toArray])
    | rw [← Array.forIn_toList]
  refine wpAny_bind (ksk_fold (fun i s' => KAt w X T n k pins σ ps H s.heap (s.heap.objs.size + 1) kS e1 ds (fun r S H => Pst w ps W (if sortOk (D.pys r) = true then R.ok (.lst (sortBy ds r)) S else .stuck) H (Ret w ps 2 Q)) i s') us 0 _ K0 ?step ?done)
  case step =>
    intro j x s' hx K
    rw [Nat.zero_add] at K ⊢
    refine wpAny_bind (wpAny_attempt (wpAny_mono (bodyStep (E := E') hK hf hr hka hzu I.ok ra rv hx K) (fun v s2 h2 => ?_) fun _ _ hF => hF.elim))
    exact wpAny_bind (wpAny_mono h2 (fun _ s3 K3 => wpAny_pure ⟨rfl, K3⟩) fun _ _ z => z)
  case done =>
    intro sl K
    obtain ⟨Hj, Sj, kA, e, ksV, ks, Il, kp, stl, rk, rkv, hlk, nk, na, fkl, fal, ql⟩ := K.ex
    have hlen : us.length = ds.length := by rw [← rv.length, ra.length]
    rw [Nat.zero_add] at hlk ql
    have ed : ds.drop us.length = [] := by rw [hlen]; exact List.drop_length
    rw [ed] at ql
    have ql : Pst w ps W (if sortOk (D.pys (ks ++ [])) = true then R.ok (.lst (sortBy ds (ks ++ []))) Sj else .stuck) H (Ret w ps 2 Q) := ql
    rw [List.append_nil] at ql
    by_cases hso : sortOk (D.pys ks) = true
    · rw [if_pos hso] at ql
      obtain ⟨o1, o2, o3⟩ := sortOk_ok hso
      have em := mids rk rkv
      have er := each_reads (X := inn X) hK Il em o3
      have er' : PySem.W.EachIs (fun v d => ∃ as, Reads sl.heap v d as) kA.toList (D.pys ks) := by
        rw [pys_map]
        exact PySem.W.each_map D.py er
      have hsz : kA.size = us.length := by
        have h1 : ksV.length = kA.toList.length := rkv.length
        have h2 : kA.toList.length = kA.size := Array.length_toList
        have h3 := rk.length
        omega
      obtain ⟨G, g1, g2⟩ := restrict sl.heap fun b => decide (b ≠ kS)
      have gk : ∀ b, b ≠ kS → G.get? b = sl.heap.get? b := fun b hb => g1 b (decide_eq_true hb)
      have ge : G.get? kS = none := g2 kS (by simp)
      refine wpAny_bind (listItems_at nk rfl ?_)
      refine PySem.W.keyH_end (κ := PySem.W.dataKind sl.heap (D.pys ks)) (h₁ := G) (fun b o hb eb => ?_) ge nk na hka (sortsAt_data er' o1 o2 fun d hd => ?_) hsz hzu fun h3 tk3 c k3 n3 => ⟨rfl, ?_⟩
      · by_cases hbk : b = kS
        · rw [hbk, ge] at eb; cases eb
        · rw [← gk b hbk]; exact eb
      · have := SeqAt.depth_of_shaped (o3 d hd)
        have := hr.in1.in1.un
        omega
      · have emap : (ds.zip ks).map (fun p : D × D => p.2.py) = D.pys ks := by
          rw [pys_map, show (fun p : D × D => p.2.py) = D.py ∘ Prod.snd from rfl, ← List.map_map, List.map_snd_zip (by omega)]
        have ePair := PySem.W.keyedOut_each (rev := false) (vs := us) (fun p : D × D => p.2.py) (bs := ds.zip ks) ⟨sl.heap, kA.toList, by rw [emap]; exact o1, by rw [emap], by rw [emap]; exact er'⟩ (pair_mids (us := us) (by omega) (ra.mono kp.kd) rv)
        obtain ⟨outV, ov, orp⟩ := unmids (pair_unmids ePair)
        have olen : outV.length ≤ sizeLine := by
          have h1 : outV.length = _ := ov.length
          have h2 : (PySem.W.sortVals (PySem.W.dataKind sl.heap (D.pys ks)) false kA.toList us).length = us.length := PySem.W.sortVals_length false (by rw [Array.length_toList, hsz])
          rw [h1, h2]
          exact hzu
        have nj : Hj (s.heap.objs.size + 1) = none := fal.1
        have keep3 : ∀ b o, b ≠ s.heap.objs.size + 1 → b ≠ kS → sl.heap.get? b = some o → h3.get? b = some o := fun b o hb hb2 e => k3 b o hb (by rw [gk b hb2]; exact e)
        have nea : ∀ {b : Addr} {u : HO}, Hj b = some u → b ≠ s.heap.objs.size + 1 := fun {b u} e z => by rw [z, nj] at e; cases e
        have nek : ∀ {b : Addr} {u : HO}, Hj b = some u → b ≠ kS := fun {b u} e z => by rw [z, fkl.1] at e; cases e
        have U : Un (frs (inn X).stack) [s.heap.objs.size + 1, kS] Hj (upd Hj (s.heap.objs.size + 1) (.lst outV)) sl.heap h3 := {
          keep := fun b o e _ _ hx => keep3 b o (fun z => hx (by simp [z])) (fun z => hx (by simp [z])) e
          slot := fun b o e _ _ hx => ⟨o.slots, keep3 b o (fun z => hx (by simp [z])) (fun z => hx (by simp [z])) e⟩
          free := fun b o e nn hx => by rw [upd_ne (fun z => hx (by simp [z]))]; exact nn
          there := fun b o e hx => ⟨o, keep3 b o (fun z => hx (by simp [z])) (fun z => hx (by simp [z])) e⟩
          tups := fun b xs e => by rw [upd_ne (nea e)]; exact e
          frzs := fun b o u e => by rw [upd_ne (nea e)]; exact e
          tbls := fun b pp e => ⟨#[], by rw [upd_ne (nea e), e]; simp⟩ }
        have hok3 : HOk X.prog X.w (upd Hj (s.heap.objs.size + 1) (.lst outV)) h3 := fun b o e => by
          by_cases hb : b = s.heap.objs.size + 1
          · subst hb
            rw [upd_same] at e
            cases e
            exact ⟨olen, _, c, ov, n3⟩
          · rw [upd_ne hb] at e
            exact (Il.hok b o e).stay (fun c v hc z => keep3 c v (by
                rcases hc with hc | hc
                · rw [hc]; exact hb
                · exact nea hc) (by
                rcases hc with hc | hc
                · rw [hc]; exact nek e
                · exact nek hc) z) (fun c hc => by rw [upd_ne (nea hc)]; exact hc) (fun c xs hc => by rw [upd_ne (nea hc)]; exact hc)
        have If : L2.Inv (inn X) pins σ (upd Hj (s.heap.objs.size + 1) (.lst outV)) { sl with heap := h3, toks := tk3 } := Il.call' (ch := [s.heap.objs.size + 1, kS]) rfl U hok3 Il.bare fun b hb => by
          rcases List.mem_cons.mp hb with rfl | hb
          · exact ⟨fal.2.2.2.1, fal.2.1, fal.2.2.2.2.1, fal.2.2.2.2.2⟩
          · rcases List.mem_cons.mp hb with rfl | hb
            · exact ⟨fkl.2.2.2.1, fkl.2.1, fkl.2.2.2.2.1, fkl.2.2.2.2.2⟩
            · cases hb
        refine ⟨.ref (s.heap.objs.size + 1), _, inn_of I.ok If, rfl, (show Ret w ps 2 Q (.lst (sortBy ds ks)) Sj H from ql) _ _ (kp.trans (Keep.upd nj)) (stl.upd nj) ⟨_, outV, _, rfl, rfl, stl.ne nj, kp.back nj (stl.ne nj), upd_same, orp.mono (kd_upd nj)⟩⟩
    · rw [if_neg hso] at ql
      exact ql.elim
def rSortk (w : Wd) (T : Tab) (n k : Nat) (W : XK) : List V → List V → Hp → VK → Prop := fun xs zs H Q => ∃ ps S H1 v d, xs = [v] ∧ zs = [.ref (w.fa k)] ∧ RepM w ps 1 H1 H v d ∧ StOk w ps S H ∧ Pst w ps W (sortkM (gAt T n) k d S) H (Ret w ps 2 Q)
theorem crk_sortk (hK : X.K = w.K) (hu : X.A.units + 66 < cLine) {k : Nat} (hf : FnF w T n X.prog X.w X.mg X.base k) (hr : Room (lev n + 2) X.A) {W : XK} : CallRK X (.builtin "sorted") [Str.ofString "key"] (rSortk w T n k W) := by
  intro pins s σ H xs zs us ws Q I rx rz ⟨ps, S, H1, v, d, e1, e2, ra, st, q⟩
  subst e1 e2
  cases rx with
  | cons r1 rn =>
    cases rn
    cases rz with
    | cons r2 rn =>
      cases rn
      cases r2
      cases d with
      | lst ds =>
        obtain ⟨l, vs, rfl, h1, h2⟩ := lstOf ra
        cases r1
        exact run_sortk hK hu hf hr I (Rd.sql h1) h2 st q
      | _ => exact q.elim
theorem ok_sortk {W : XK} {nm : Nm} {k : Nat} {l : Expr} {p q kp pos : Pos} {m : Md} {de : Rho → Sx → R D} (hK : X.K = w.K) (hu : X.A.units + 66 < cLine) (hf : FnF w T n X.prog X.w X.mg X.base k) (hmg : X.mg (nm.fn k) = some (.ref (w.fa k))) (hr : Room (lev n + 2) X.A) (hg : Gl X "sorted") (hms : X.mg "sorted" = none)
    (hgk : glB X.env.scope (nm.fn k) = true) (ns : NS [l]) (hm : m < 3) (he : PE X l (tE w W 1 de)) :
    PE X (.Call (.Name "sorted" p) [l] [⟨some "key", .Name (nm.fn k) q, kp⟩] pos) (tE w W m fun ρ S => (de ρ S).bind fun x S => sortkM (gAt T n) k x S) := by
  obtain ⟨g1, g2⟩ := gl_of hgk
  refine peNew (peImp (pe_callBK (t := tCons (tE w W 1 de) tNil) (tk := tCons (tC (.ref (w.fa k))) tNil) (ks := [Str.ofString "key"]) (crk_sortk (W := W) hK hu hf hr) hg hms rfl (pa_cons he pa_nil ns.star) (pk_cons (pe_glob (v := .ref (w.fa k)) g1 hmg rfl g2) pk_nil) (by decide) (by decide) (by rw [ns.star]; rfl) (by rw [ns.star]; rfl) rfl rfl rfl) ?_) m hm
  rintro σ H Q ⟨ps, H0, ρ, S, env, st, q⟩
  rw [Pst.bind] at q
  exact ⟨ps, H0, ρ, S, env, st, Pst.imp q fun d S1 q1 v H1 k1 st1 r1 => ⟨ps, S1, H, v, d, rfl, rfl, r1, st1, Pst.mono Ret.mon k1 q1⟩⟩
end
end Pu

/-! ======== Pu12c ======== -/
/-! More forms: index, dicts written out, sorted of a dict's keys, sets that are sorted or counted. -/
namespace Pu
open PySem PySem.Spec PyProof.Rows L2
section
variable {X : Cx} {pos : Pos}
/-- {k: v}, one pair, the key a row of numbers and texts -/
def tDisp1 (tk tv : TE) : TE := fun σ H Q => ∀ p, H p = none → tk σ (upd H p (.dT [])) fun x H1 => tv σ H1 fun y H2 => ∃ (ks : List Key) (b : Addr), x = .ref b ∧ H2 b = some (.tup (ks.map kV)) ∧ H2 p = some (.dT []) ∧ Q (.ref p) (upd H2 p (.dT [(ks, y)]))
theorem pe_disp1 {k v : Expr} {tk tv : TE} (hu : X.A.units + 2 < cLine) (hk : PE X k tk) (hv : PE X v tv) : PE X (.Dict [some k] [v] pos) (tDisp1 tk tv) := by
  refine ⟨fun pins s σ H Q I q => ?_⟩
  have hn := I.hok.fresh (Nat.le_refl s.heap.objs.size)
  have I1 := I.laid (a := s.heap.objs.size) (o := .dT []) (h' := s.heap.push { cls := .type "dict", data := .dict #[] }) (t' := s.toks) (fun _ _ q => Heap.get?_push_of_some _ q) (Nat.le_refl _) (dt_empty s.heap I.big)
  rw [arm_eval_Dict, zip_pairTrees [some k] [v] X.env pos rfl rfl, dictDisplay_pairs (pairTrees [some k] [v] X.env pos) (by simp [pairTrees]) (by simp [pairTrees])]
  refine wpAny_bind (wpAny_standAt (wpAny_bind ?_))
  unfold subDict
  refine wpAny_bind (wpAny_alloc ?_)
  refine wpAny_bind (wpAny_holding ?_)
  rw [if_pos (by simp [pairTrees])]
  have q1 : tPairs [(tk, tv)] σ (upd H s.heap.objs.size (.dT [])) (fun ps H2 => match ps with
    | [(x, y)] => ∃ (ks : List Key) (b : Addr), x = .ref b ∧ H2 b = some (.tup (ks.map kV)) ∧ H2 s.heap.objs.size = some (.dT []) ∧ Q (.ref s.heap.objs.size) (upd H2 s.heap.objs.size (.dT [(ks, y)]))
    | _ => False) := q _ hn
  refine wpAny_bind (thn ((pps_cons hk hv pps_nil).run pins _ σ _ _ I1 q1) fun ws s2 ⟨ps, H2, I2, rel, e⟩ => ?_)
  split at e
  · rename_i x y
    obtain ⟨ks, b, rfl, eb, ed, q2⟩ := e
    cases rel with
    | @cons _ uv _ _ r t =>
      cases t
      obtain ⟨u, v'⟩ := uv
      cases (show u = Value.ref b from r.1)
      refine wpAny_holding ?_
      rw [List.forIn_cons]
      dsimp only
      obtain ⟨z, hd, xs, rel, dd⟩ := dt_of I2.hok ed
      cases rel
      refine wpAny_bind (wpAny_bind (wpAny_bind (wpAny_dictSet_heap (hsz := Nat.zero_le _) (show X.A.units < cLine by omega) (key_of I2.hok eb) dd fun h' dd' hs => wpAny_pure ?_)))
      dsimp only
      rw [List.forIn_nil]
      refine wpAny_pure (wpAny_pure (wpAny_pure (wpAny_pure ⟨.ref s.heap.objs.size, _, ?_, rfl, q2⟩)))
      obtain ⟨qo, es, ep, hq, h2, h3, h4, _, h5⟩ := dd'
      refine d_write I2 (by rw [ed]; exact True.intro) hs ⟨qo, hq⟩ ⟨by simp [sizeLine_eq], hd, _, ?_, qo, es, ep, hq, h2, h3, h4, h5⟩
      have : b ≠ s.heap.objs.size := fun z => by rw [z, ed] at eb; cases eb
      exact .cons ⟨rfl, by rw [upd_ne this]; exact eb, r.2⟩ .nil
  · exact e.elim
end
section
variable {w : Wd} {X : Cx} {T : Tab} {n : Nat} {pins : List (Addr × Obj)} {σ : L2.St} {H : Hp} {s : Shared} {ps : Option Addr}
theorem sortk_at (hK : X.K = w.K) (hu : X.A.units + 66 < cLine) {k : Nat} (hf : FnF w T n X.prog X.w X.mg X.base k) (hr : Room (lev n + 2) X.A) {vs : List V} {us : List Value} {ds : List D} {S : Sx} {Q : VK} (I : L2.Inv X pins σ H s) (rv : Vals vs us) (hzu : us.length ≤ sizeLine) (ra : RepAll w ps H vs ds) (st : StOk w ps S H) {W : XK}
    (q : Pst w ps W (sortkM (gAt T n) k (.lst ds) S) H (Ret w ps 2 Q)) (E' : Value → Shared → Prop) : wpAny (model X.prog X.w) X.A.in1.in1 (Builtin.«list.sort» ⟨[.ref s.heap.objs.size], [(Str.ofString "key", .ref (w.fa k))]⟩) (fun f s' => f = .done (.ret .none) ∧ EP X pins σ Q (.ref s.heap.objs.size) s') E' { s with heap := s.heap.push (seqObj "list" us.toArray 0) } := by
  have q' : Pst w ps W ((noX (lcGo (keyF (gAt T n) k) ds S)).bind fun ks S' => if sortOk (D.pys ks) then R.ok (.lst (sortBy ds ks)) S' else .stuck) H (Ret w ps 2 Q) := q
  rw [Pst.bind] at q'
  have q0 := noX_st q'
  rw [ksk_t1]
  have ho : (s.heap.push (seqObj "list" us.toArray 0)).get? (s.heap.objs.size) = some (seqObj "list" us.toArray 0) := Heap.get?_push_size _ rfl
  obtain ⟨e1, ho1⟩ : ∃ e1, ((s.heap.push (seqObj "list" us.toArray 0)).update (s.heap.objs.size) (Obj.mapSeq fun _ => (#[] : Array Value))).get? (s.heap.objs.size) = some (seqObj "list" #[] e1) := ⟨_, get?_update_seq ho fun _ => #[]⟩
  unfold ksk_tree
  refine wpAny_bind (listItems_at ho rfl ?_)
  refine wpAny_bind (listUpdate_at ho rfl ?_ (by rw [List.size_toArray]; exact hzu) (Nat.zero_le _))
  refine wpAny_bind (seqEpoch_at ho1 rfl ?_)
  refine wpAny_bind (wpAny_newTuple ?_ (by show us.length ≤ _; exact hzu))
  refine wpAny_bind (wpAny_newList ?_ (Nat.zero_le _))
  refine wpAny_holding ?_
  generalize hkS : (((s.heap.push (seqObj "list" us.toArray 0)).update (s.heap.objs.size) (Obj.mapSeq fun _ => (#[] : Array Value))).push (seqObj "tuple" us.toArray 0)).objs.size = kS
  have hsz1 : (s.heap.push (seqObj "list" us.toArray 0)).objs.size = s.heap.objs.size + 1 := by
    rw [size_push']
  have hkS' : kS = s.heap.objs.size + 2 := by rw [← hkS, size_push', Heap.size_update, hsz1]
  have old : ∀ b o, s.heap.get? b = some o → ((((s.heap.push (seqObj "list" us.toArray 0)).update (s.heap.objs.size) (Obj.mapSeq fun _ => (#[] : Array Value))).push (seqObj "tuple" us.toArray 0)).push (seqObj "list" #[] 0)).get? b = some o := fun b o e =>
    Heap.get?_push_of_some _ (Heap.get?_push_of_some _ ((Heap.get?_update_other _ _ (Ne.symm (Nat.ne_of_lt (Heap.lt_size e)))).trans (Heap.get?_push_of_some _ e)))
  have I4 : L2.Inv (inn X) pins σ H { s with heap := (((s.heap.push (seqObj "list" us.toArray 0)).update (s.heap.objs.size) (Obj.mapSeq fun _ => (#[] : Array Value))).push (seqObj "tuple" us.toArray 0)).push (seqObj "list" #[] 0) } := inn_to (I.kept (t' := s.toks) old)
  have fk : FpOk (inn X) pins H kS := (inn_to I).fpOk (by omega) (I.hok.fresh (by omega))
  have fa : FpOk (inn X) pins H (s.heap.objs.size) := (inn_to I).fpOk (Nat.le_refl _) (I.hok.fresh (Nat.le_refl _))
  have hka : kS ≠ s.heap.objs.size := by omega
  have nk4 : ((((s.heap.push (seqObj "list" us.toArray 0)).update (s.heap.objs.size) (Obj.mapSeq fun _ => (#[] : Array Value))).push (seqObj "tuple" us.toArray 0)).push (seqObj "list" #[] 0)).get? kS = some (seqObj "list" #[] 0) := by
    rw [← hkS]
    exact Heap.get?_push_size _ rfl
  have K0 : KAt w X T n k pins σ ps H s.heap (s.heap.objs.size) kS e1 ds (fun r S H => Pst w ps W (if sortOk (D.pys r) = true then R.ok (.lst (sortBy ds r)) S else .stuck) H (Ret w ps 2 Q)) 0 { s with heap := (((s.heap.push (seqObj "list" us.toArray 0)).update (s.heap.objs.size) (Obj.mapSeq fun _ => (#[] : Array Value))).push (seqObj "tuple" us.toArray 0)).push (seqObj "list" #[] 0) } :=
    ⟨H, S, #[], 0, [], [], I4, Keep.refl, st, .nil, .nil, rfl, nk4, Heap.get?_push_of_some _ (Heap.get?_push_of_some _ ho1), fk, fa, by rw [List.drop_zero]; exact q0⟩
  unfold ksk_rest
  refine wpAny_bind (wpAny_rule ?_)
  first
    | rw [List.forIn_toArray]
    | (rw [← Array.forIn_toList]; simp only [List.toList_toArray])
    | rw [← Array.forIn_toList]
  refine wpAny_bind (ksk_fold (fun i s' => KAt w X T n k pins σ ps H s.heap (s.heap.objs.size) kS e1 ds (fun r S H => Pst w ps W (if sortOk (D.pys r) = true then R.ok (.lst (sortBy ds r)) S else .stuck) H (Ret w ps 2 Q)) i s') us 0 _ K0 ?step ?done)
  case step =>
    intro j x s' hx K
    rw [Nat.zero_add] at K ⊢
    refine wpAny_bind (wpAny_attempt (wpAny_mono (bodyStep (E := E') hK hf hr hka hzu I.ok ra rv hx K) (fun v s2 h2 => ?_) fun _ _ hF => hF.elim))
    exact wpAny_bind (wpAny_mono h2 (fun _ s3 K3 => wpAny_pure ⟨rfl, K3⟩) fun _ _ z => z)
  case done =>
    intro sl K
    obtain ⟨Hj, Sj, kA, e, ksV, ks, Il, kp, stl, rk, rkv, hlk, nk, na, fkl, fal, ql⟩ := K.ex
    have hlen : us.length = ds.length := by rw [← rv.length, ra.length]
    rw [Nat.zero_add] at hlk ql
    have ed : ds.drop us.length = [] := by rw [hlen]; exact List.drop_length
    rw [ed] at ql
    have ql : Pst w ps W (if sortOk (D.pys (ks ++ [])) = true then R.ok (.lst (sortBy ds (ks ++ []))) Sj else .stuck) H (Ret w ps 2 Q) := ql
    rw [List.append_nil] at ql
    by_cases hso : sortOk (D.pys ks) = true
    · rw [if_pos hso] at ql
      obtain ⟨o1, o2, o3⟩ := sortOk_ok hso
      have em := mids rk rkv
      have er := each_reads (X := inn X) hK Il em o3
      have er' : PySem.W.EachIs (fun v d => ∃ as, Reads sl.heap v d as) kA.toList (D.pys ks) := by
        rw [pys_map]
        exact PySem.W.each_map D.py er
      have hsz : kA.size = us.length := by
        have h1 : ksV.length = kA.toList.length := rkv.length
        have h2 : kA.toList.length = kA.size := Array.length_toList
        have h3 := rk.length
        omega
      obtain ⟨G, g1, g2⟩ := restrict sl.heap fun b => decide (b ≠ kS)
      have gk : ∀ b, b ≠ kS → G.get? b = sl.heap.get? b := fun b hb => g1 b (decide_eq_true hb)
      have ge : G.get? kS = none := g2 kS (by simp)
      refine wpAny_bind (listItems_at nk rfl ?_)
      refine PySem.W.keyH_end (κ := PySem.W.dataKind sl.heap (D.pys ks)) (h₁ := G) (fun b o hb eb => ?_) ge nk na hka (sortsAt_data er' o1 o2 fun d hd => ?_) hsz hzu fun h3 tk3 c k3 n3 => ⟨rfl, ?_⟩
      · by_cases hbk : b = kS
        · rw [hbk, ge] at eb; cases eb
        · rw [← gk b hbk]; exact eb
      · have := SeqAt.depth_of_shaped (o3 d hd)
        have := hr.in1.in1.un
        omega
      · have emap : (ds.zip ks).map (fun p : D × D => p.2.py) = D.pys ks := by
          rw [pys_map, show (fun p : D × D => p.2.py) = D.py ∘ Prod.snd from rfl, ← List.map_map, List.map_snd_zip (by omega)]
        have ePair := PySem.W.keyedOut_each (rev := false) (vs := us) (fun p : D × D => p.2.py) (bs := ds.zip ks) ⟨sl.heap, kA.toList, by rw [emap]; exact o1, by rw [emap], by rw [emap]; exact er'⟩ (pair_mids (us := us) (by omega) (ra.mono kp.kd) rv)
        obtain ⟨outV, ov, orp⟩ := unmids (pair_unmids ePair)
        have olen : outV.length ≤ sizeLine := by
          have h1 : outV.length = _ := ov.length
          have h2 : (PySem.W.sortVals (PySem.W.dataKind sl.heap (D.pys ks)) false kA.toList us).length = us.length := PySem.W.sortVals_length false (by rw [Array.length_toList, hsz])
          rw [h1, h2]
          exact hzu
        have nj : Hj (s.heap.objs.size) = none := fal.1
        have keep3 : ∀ b o, b ≠ s.heap.objs.size → b ≠ kS → sl.heap.get? b = some o → h3.get? b = some o := fun b o hb hb2 e => k3 b o hb (by rw [gk b hb2]; exact e)
        have nea : ∀ {b : Addr} {u : HO}, Hj b = some u → b ≠ s.heap.objs.size := fun {b u} e z => by rw [z, nj] at e; cases e
        have nek : ∀ {b : Addr} {u : HO}, Hj b = some u → b ≠ kS := fun {b u} e z => by rw [z, fkl.1] at e; cases e
        have U : Un (frs (inn X).stack) [s.heap.objs.size, kS] Hj (upd Hj (s.heap.objs.size) (.lst outV)) sl.heap h3 := {
          keep := fun b o e _ _ hx => keep3 b o (fun z => hx (by simp [z])) (fun z => hx (by simp [z])) e
          slot := fun b o e _ _ hx => ⟨o.slots, keep3 b o (fun z => hx (by simp [z])) (fun z => hx (by simp [z])) e⟩
          free := fun b o e nn hx => by rw [upd_ne (fun z => hx (by simp [z]))]; exact nn
          there := fun b o e hx => ⟨o, keep3 b o (fun z => hx (by simp [z])) (fun z => hx (by simp [z])) e⟩
          tups := fun b xs e => by rw [upd_ne (nea e)]; exact e
          frzs := fun b o u e => by rw [upd_ne (nea e)]; exact e
          tbls := fun b pp e => ⟨#[], by rw [upd_ne (nea e), e]; simp⟩ }
        have hok3 : HOk X.prog X.w (upd Hj (s.heap.objs.size) (.lst outV)) h3 := fun b o e => by
          by_cases hb : b = s.heap.objs.size
          · subst hb
            rw [upd_same] at e
            cases e
            exact ⟨olen, _, c, ov, n3⟩
          · rw [upd_ne hb] at e
            exact (Il.hok b o e).stay (fun c v hc z => keep3 c v (by
                rcases hc with hc | hc
                · rw [hc]; exact hb
                · exact nea hc) (by
                rcases hc with hc | hc
                · rw [hc]; exact nek e
                · exact nek hc) z) (fun c hc => by rw [upd_ne (nea hc)]; exact hc) (fun c xs hc => by rw [upd_ne (nea hc)]; exact hc)
        have If : L2.Inv (inn X) pins σ (upd Hj (s.heap.objs.size) (.lst outV)) { sl with heap := h3, toks := tk3 } := Il.call' (ch := [s.heap.objs.size, kS]) rfl U hok3 Il.bare fun b hb => by
          rcases List.mem_cons.mp hb with rfl | hb
          · exact ⟨fal.2.2.2.1, fal.2.1, fal.2.2.2.2.1, fal.2.2.2.2.2⟩
          · rcases List.mem_cons.mp hb with rfl | hb
            · exact ⟨fkl.2.2.2.1, fkl.2.1, fkl.2.2.2.2.1, fkl.2.2.2.2.2⟩
            · cases hb
        refine ⟨.ref (s.heap.objs.size), _, inn_of I.ok If, rfl, (show Ret w ps 2 Q (.lst (sortBy ds ks)) Sj H from ql) _ _ (kp.trans (Keep.upd nj)) (stl.upd nj) ⟨_, outV, _, rfl, rfl, stl.ne nj, kp.back nj (stl.ne nj), upd_same, orp.mono (kd_upd nj)⟩⟩
    · rw [if_neg hso] at ql
      exact ql.elim
end
section
variable {w : Wd} {X : Cx} {T : Tab} {n : Nat} {pins : List (Addr × Obj)} {σ : L2.St} {H : Hp} {s : Shared} {ps : Option Addr}
theorem run_sortkd (hK : X.K = w.K) (hc : X.calm = true) (hu : X.A.units + 66 < cLine) {k : Nat} (hf : FnF w T n X.prog X.w X.mg X.base k) (hr : Room (lev n + 2) X.A) {d : Addr} {ws : List (List Key × V)} {kvs : List (List Int × D)} {S : Sx} {Q : VK} (I : L2.Inv X pins σ H s) (hd : Rd H d (.dT ws)) (dr : DRep w ps H ws kvs) (st : StOk w ps S H) {W : XK}
    (q : Pst w ps W (sortkM (gAt T n) k (.lst (kvs.map fun kv => keyD kv.1)) S) H (Ret w ps 2 Q)) : wpAny (model X.prog X.w) X.A (call (.builtin "sorted") [.ref d] ([Str.ofString "key"].zip [.ref (w.fa k)])) (EP X pins σ Q) X.xe s := by
  obtain ⟨z, hs, ks, pr, o, es, ep, ho, hx, hdt, he, hn⟩ := (show ObjOk X.prog X.w H s.heap d (.dT ws) from hd.ok I.hok)
  have l1 : es.size = ks.length := size_of_entries he
  have l2 : ws.length = ks.length := Paired.length pr
  show wpAny _ X.A (call (.builtin "sorted") [.ref d] [(Str.ofString "key", .ref (w.fa k))]) _ _ _
  refine PyProof.Rows.call_function_entry_kw kind_sorted plain_sorted entry_sorted (by first | rfl | kernel_rfl | decide +kernel) ?_
  unfold Builtin.«sorted»
  refine wpAny_bind (m := checkCount "sorted" 1 1 _) (wpAny_pure ?_)
  refine wpAny_bind (PySem.W.kdu_collect (A := X.A.in1) (kdl_raw hs hx hdt) (I.ok.hd hc) ho (by omega) fun h' tk acc' kp it => ?_)
  have ea : acc'.toList = ks.map fun x => Value.ref x.2.1 := by
    have hl : acc'.toList.length = ks.length := by rw [Array.length_toList, it.1]; exact l1
    apply List.ext_getElem?
    intro j
    rw [List.getElem?_map]
    cases hj : acc'.toList[j]? with
    | none =>
      have h1 := List.getElem?_eq_none_iff.mp hj
      rw [List.getElem?_eq_none (by omega)]
      all_goals rfl
    | some v =>
      obtain ⟨en, hen, hv⟩ := it.2 j v (by rw [← Array.getElem?_toList]; exact hj)
      have qe := entry_at he j
      rw [hen] at qe
      cases hb : ks[j]? with
      | none =>
        rw [hb] at qe
        exact nomatch (show some en = none from qe)
      | some b =>
        rw [hb] at qe
        have e2 : en = entryOfKey (tupleKind (mixKind X.prog X.w)) b := Option.some.inj qe
        rw [hv, e2]
        all_goals rfl
  have eb : acc'.toList = (ks.map fun x => x.2.1).map Value.ref := by rw [ea, List.map_map]; all_goals rfl
  have rv : Vals ((ks.map fun x => x.2.1).map V.ref) acc'.toList := by rw [eb]; exact vals_refs _
  have hz : acc'.toList.length ≤ sizeLine := by rw [eb, List.length_map, List.length_map]; omega
  have I1 : L2.Inv X pins σ H { s with heap := h', toks := tk } := I.kept kp
  refine wpAny_bind (wpAny_newList ?_ hz)
  refine wpAny_bind (wpAny_holding (wpAny_call_entry_kw (PySem.F.slot_list_sort) ⟨_, Heap.get?_push_size _ rfl, rfl⟩ (PySem.F.entry_list_sort) ?body (by first | rfl | kernel_rfl | decide +kernel)))
  case body =>
    show wpAny _ X.A.in1.in1 (Builtin.«list.sort» ⟨[.ref h'.objs.size], [(Str.ofString "key", .ref (w.fa k))]⟩) _ _ _
    refine wpAny_mono (sortk_at (s := { s with heap := h', toks := tk }) hK hu hf hr I1 rv hz (keys_rep dr (isKeys_of pr)) st q _) (fun f s' hf => ?_) fun _ _ e => e
    obtain ⟨rfl, hq⟩ := hf
    exact ⟨_, rfl, wpAny_pure ⟨_, rfl, hq⟩⟩
end
section
variable {w : Wd} {X : Cx} {T : Tab} {n : Nat}
def rSortkd (w : Wd) (T : Tab) (n k : Nat) (W : XK) : List V → List V → Hp → VK → Prop := fun xs zs H Q => ∃ ps S d ws kvs, xs = [.ref d] ∧ zs = [.ref (w.fa k)] ∧ Rd H d (.dT ws) ∧ DRep w ps H ws kvs ∧ StOk w ps S H ∧ Pst w ps W (sortkM (gAt T n) k (.lst (kvs.map fun kv => keyD kv.1)) S) H (Ret w ps 2 Q)
theorem crk_sortkd (hK : X.K = w.K) (hc : X.calm = true) (hu : X.A.units + 66 < cLine) {k : Nat} (hf : FnF w T n X.prog X.w X.mg X.base k) (hr : Room (lev n + 2) X.A) {W : XK} : CallRK X (.builtin "sorted") [Str.ofString "key"] (rSortkd w T n k W) := by
  intro pins s σ H xs zs us ws Q I rx rz ⟨ps, S, d, wss, kvs, e1, e2, hd, dr, st, q⟩
  subst e1 e2
  cases rx with
  | cons r1 rn =>
    cases rn
    cases rz with
    | cons r2 rn =>
      cases rn
      cases r2
      cases r1
      exact run_sortkd hK hc hu hf hr I hd dr st q
theorem ok_sortkd {W : XK} {nm : Nm} {k i : Nat} {y : Str} {p p2 q kp pos : Pos} {m : Md} (hK : X.K = w.K) (hc : X.calm = true) (hu : X.A.units + 66 < cLine) (hf : FnF w T n X.prog X.w X.mg X.base k) (hmg : X.mg (nm.fn k) = some (.ref (w.fa k))) (hr : Room (lev n + 2) X.A) (hg : Gl X "sorted") (hms : X.mg "sorted" = none)
    (hgk : glB X.env.scope (nm.fn k) = true) (hs : slB X.N X.env.scope i y = true) (hm : m < 3) :
    PE X (.Call (.Name "sorted" p) [.Name y p2] [⟨some "key", .Name (nm.fn k) q, kp⟩] pos) (tE w W m fun ρ S => match dictAt ρ i with | some kvs => sortkM (gAt T n) k (.lst (kvs.map fun kv => keyD kv.1)) S | none => .stuck) := by
  obtain ⟨g1, g2⟩ := gl_of hgk
  obtain ⟨h1, h2, h3, h4⟩ := sl_of hs
  refine peNew (peImp (pe_callBK (t := tCons (tVar i) tNil) (tk := tCons (tC (.ref (w.fa k))) tNil) (ks := [Str.ofString "key"]) (crk_sortkd (W := W) hK hc hu hf hr) hg hms rfl (pa_cons (pe_var (pos := p2) h1 h2 h3 h4) pa_nil) (pk_cons (pe_glob (v := .ref (w.fa k)) g1 hmg rfl g2) pk_nil) (by decide) (by decide) (by rfl) (by rfl) rfl rfl rfl) ?_) m hm
  rintro σ H Q ⟨ps, H0, ρ, S, env, st, q⟩
  dsimp only at q
  split at q
  · rename_i kvs e
    obtain ⟨x, ws, es, dr, rd⟩ := dict_at env e
    exact ⟨.ref x, es, ps, S, x, ws, kvs, rfl, rfl, rd H Keep.refl, dr, st, q⟩
  · exact q.elim
end
def indexD (t : Bool) (x y : D) : Option D := match y with
  | .int k => (match x with
    | .tup ds => if t then (intsD ds).bind fun l => if k ∈ l then some (.int (l.idxOf k : Nat)) else none else none
    | .lst ds => if t then none else (intsD ds).bind fun l => if k ∈ l then some (.int (l.idxOf k : Nat)) else none
    | _ => none)
  | _ => none
section
variable {w : Wd} {W : XK} {X : Cx} {pos p q cpos apos : Pos} {m : Md} {o a : Expr} {de dx : Rho → Sx → R D} {ps : Option Addr} {H : Hp}
theorem isi_of_rep : ∀ {vs : List V} {us : List Value} {ds : List D} {l : List Int}, RepAll w ps H vs ds → Vals vs us → intsD ds = some l → IntsAre us l := fun {vs us ds l} r v e => by
  have e' := ints_all e
  subst e'
  have e2 := rep_ints r
  subst e2
  clear r e
  induction l generalizing us with
  | nil => cases v; exact .nil
  | cons i l ih =>
    cases v with
    | cons r t =>
      obtain ⟨tk, rfl⟩ := r
      exact .cons _ _ (ih t)
def rIx (w : Wd) (t : Bool) : V → List V → Hp → VK → Prop := fun x xs H Q => ∃ ps S H1 dx dy d y, xs = [y] ∧ RepM w ps 1 H1 H x dx ∧ Rep w ps H y dy ∧ StOk w ps S H ∧ indexD t dx dy = some d ∧ Ret w ps 0 Q d S H
theorem mt_ixL : MtR X "list.index" (rIx w false) := by
  intro pins s σ H x xs v us Q I rx rs h
  obtain ⟨ps, S, H1, dx, dy, d, y, rfl, ra, rb, st, e, q⟩ := h
  obtain ⟨u, rfl, ru⟩ := Vals.one rs
  cases dy with
  | int k =>
    cases rb
    obtain ⟨tk, rfl⟩ := ru
    cases dx with
    | lst ds =>
      have e' : (intsD ds).bind (fun l => if k ∈ l then some (D.int (l.idxOf k : Nat)) else none) = some d := e
      cases ei : intsD ds with
      | none => rw [ei] at e'; cases e'
      | some l =>
        rw [ei] at e'
        have e' : (if k ∈ l then some (D.int (l.idxOf k : Nat)) else none) = some d := e'
        by_cases hk : k ∈ l
        · rw [if_pos hk] at e'
          cases e'
          obtain ⟨pa, vs, rfl, h1, h2⟩ := lstOf ra
          cases rx
          obtain ⟨its, rv, pl, hz⟩ := I.list (show SqL X.K H pa vs from Rd.sql h1)
          have hi := isi_of_rep h2 rv ei
          have hl : l.length ≤ sizeLine := by
            have e2 := ints_all ei
            have e3 := h2.length
            rw [e2, List.length_map] at e3
            omega
          exact PySem.SeqAt.list_index_ints pl.isList hi hl hk ⟨.int (l.idxOf k : Nat), H, I.tok _, ⟨_, rfl⟩, q _ H Keep.refl st (.int _)⟩
        · rw [if_neg hk] at e'
          cases e'
    | tup ds => cases e
    | _ => cases e
  | _ => cases e
end
end Pu

/-! ======== Pu12d ======== -/
/-! == and != of two instances by the class's own __eq__. -/
namespace Pu
open PySem PySem.Spec PyProof.Rows L2
/-- an inner place of a builtin's body -/
abbrev in1X (X : Cx) : Cx := { X with A := X.A.in1, xe := fun _ _ => False }
section
variable {X : Cx} {pins : List (Addr × Obj)} {σ : L2.St} {H H' : Hp} {s : Shared}
theorem in1_to (I : L2.Inv X pins σ H s) : L2.Inv (in1X X) pins σ H s :=
  ⟨⟨I.ok.mod, I.ok.kind, I.ok.glob, I.ok.blt, I.ok.above, I.ok.inj, I.ok.has, I.ok.cab, I.ok.hd, I.ok.frames, I.ok.stk, I.ok.exf, I.ok.bs, I.ok.bsz, I.ok.noex, I.ok.exfs, I.ok.funs, I.ok.frf⟩, I.os, I.bare, I.base, I.loc, I.cell, I.free, I.freeC, I.pin, I.hok, I.len⟩
theorem in1_of (ok : X.Ok) (I : L2.Inv (in1X X) pins σ H s) : L2.Inv X pins σ H s := ⟨ok, I.os, I.bare, I.base, I.loc, I.cell, I.free, I.freeC, I.pin, I.hok, I.len⟩
end
/-- what the class c's own == is, and that it has no own != -/
structure EqF (w : Wd) (f : Addr) (c : Nat) : Prop where
  eq : PySem.W.findIn w.K (.ref (w.ca c)) "__eq__" = some (some (.ref f))
  fn : PySem.W.isFn w.K (.ref f) = true
  ne : PySem.W.findIn w.K (.ref (w.ca c)) "__ne__" = some (some (.builtin "object.__ne__"))
  ob : PySem.W.mroIn w.K (w.ca c) (.type "object") = some true
section
variable {w : Wd} {X : Cx} {T : Tab} {n : Nat} {pins : List (Addr × Obj)} {σ : L2.St} {H : Hp} {s : Shared} {ps : Option Addr}
theorem two_call (hK : X.K = w.K) {k : Nat} (hf : FnF w T n X.prog X.w X.mg X.base k) (hr : Room (lev n) X.A) (I : L2.Inv X pins σ H s) {v1 v2 : V} {u1 u2 : Value} {d1 d2 : D} {S : Sx} {Q : VK} (r1 : RelV v1 u1) (r2 : RelV v2 u2) (e1 : Rep w ps H v1 d1) (e2 : Rep w ps H v2 d2) (st : StOk w ps S H)
    (q : Pst w ps (fun _ _ _ => False) ((gAt T n).call0 k [d1, d2] S) H (Ret w ps 0 Q)) : wpAny (model X.prog X.w) X.A (call (.ref (w.fa k)) [u1, u2]) (EP X pins σ Q) X.xe s := by
  obtain ⟨fd, pl, F, hb⟩ := hf.ex
  rw [← hK] at F hb
  have hx : Passes (L2.CX X.prog X.w) X (fun _ _ _ => False) := fun _ _ _ _ _ _ _ h => by
    obtain ⟨_, _, _, _, _, _, _, _, _, _, _, _, z⟩ := h
    exact z.elim
  unfold G.call0 at q
  by_cases hfr : (gAt T n).fr k = true
  · rw [if_pos hfr] at q
    exact q.elim
  · rw [if_neg hfr] at q
    have hfr' : (if T.fr k = true then 2 else 0) = 0 := if_neg hfr
    exact run_fn (X := X) F hr hb .nil hx I (.cons r1 (.cons r2 .nil)) ⟨ps, S, [d1, d2], .cons e1 (.cons e2 .nil), st, by rw [hfr']; exact q⟩
def rEqi (w : Wd) (T : Tab) (n : Nat) (neg : Bool) : R2 := fun x y H Q => ∃ ps S c ds es f, c < w.nc ∧ T.eqf c = some f ∧ Rep w ps H x (.ins c ds) ∧ Rep w ps H y (.ins c es) ∧ StOk w ps S H ∧
  Pst w ps (fun _ _ _ => False) ((gAt T n).call0 f [.ins c ds, .ins c es] S) H (Ret w ps 0 fun v H' => ∃ r, v = .bl r ∧ Q (.bl (if neg then !r else r)) H')
theorem opr_eqi (hK : X.K = w.K) (hr : Room (lev n + 1) X.A) (hf : ∀ k, FnF w T n X.prog X.w X.mg X.base k) (he : ∀ c < w.nc, ∀ f, T.eqf c = some f → EqF w (w.fa f) c) : OpR X (compareOp .Eq) (rEqi w T n false) := by
  intro pins s σ H x y v u Q I rx ry ⟨ps, S, c, ds, es, f, hc, hcf, e1, e2, st, q⟩
  show wpAny (model X.prog X.w) X.A (richCompare .Eq v u) (EP X pins σ Q) X.xe s
  have e1' := e1
  have e2' := e2
  cases e1 with
  | @ins a dx _ fs _ h0 h1 h2 h3 =>
    cases e2 with
    | @ins b dy _ gs _ k0 k1 k2 k3 =>
      cases rx
      cases ry
      obtain ⟨mA, J, _⟩ := ins_get I.hok h1
      obtain ⟨mB, J', _⟩ := ins_get I.hok k1
      obtain ⟨od, J, _⟩ := J.look
      obtain ⟨od', J', _⟩ := J'.look
      obtain ⟨m, hF⟩ := I.fr
      refine PySem.W.cmp_K (op := .Eq) (tb := .ref (w.ca c)) hr.units0 hF I.ok.mod.kin J J'.type (by simp [PySem.W.notFirst]) (by rw [hK]; exact (he c hc f hcf).eq) (by rw [hK]; exact (he c hc f hcf).fn) ?_
      refine wpAny_mono (two_call hK (hf f) (hr.mono (Nat.le_succ _)) I (v1 := .ref a) (v2 := .ref b) rfl rfl e1' e2' st q) (fun v s' z => ?_) fun _ _ h => h
      obtain ⟨z, H', I', rz, r, rfl, hq⟩ := z
      cases rz
      exact ⟨.bl r, H', I', rfl, hq⟩
theorem ifBound_objNe {M : Model} {A : Around} {E : Value → Shared → Prop} {K : PySem.W.Frag} {x C : Addr} {ox : Obj} {od : Option Obj} {args : List Value} {Q : Option Value → Shared → Prop} (Xk : K.In s.heap) (I : PySem.W.InstAt s.heap x ox C od) (hs : PySem.W.findIn K (.ref C) "__ne__" = some (some (.builtin "object.__ne__")))
    (h : wpAny M A (call (.builtin "object.__ne__") (.ref x :: args)) (fun v => Q (some v)) E s) : wpAny M A (callSpecialIfBound? (.ref x) "__ne__" args) Q E s := by
  simp only [callSpecialIfBound?, bindSpecialIfBound?]
  refine wpAny_holding (wpAny_bind (wpAny_bind (wpAny_bind (I.type.here ((PySem.W.looks_findIn Xk hs).here ?_)))))
  refine wpAny_bind (wpAny_askSetting (wpAny_ite ?_))
  have fin : wpAny M A (call (.builtin "object.__ne__") ([.ref x] ++ args) >>= fun v => pure (some v)) Q E s := wpAny_bind (wpAny_mono h (fun v s' h' => wpAny_pure h') fun _ _ h' => h')
  split
  · exact wpAny_bind (wpAny_of_eq (F.cmp_object.ne.bind _) (wpAny_pure (by exact fin)))
  · exact wpAny_tryCatch (wpAny_bind (wpAny_of_eq (F.cmp_object.ne.bind _) (wpAny_pure (by exact fin))))
theorem objNe_entry {prog : Program} {wo : World} {A : Around} {E : Value → Shared → Prop} {K : PySem.W.Frag} {x y C f : Addr} {ox : Obj} {od : Option Obj} {Q : Fin → Shared → Prop} (hu : A.units < cLine) (Xk : K.In s.heap) (I : PySem.W.InstAt s.heap x ox C od) (hs : PySem.W.findIn K (.ref C) "__eq__" = some (some (.ref f))) (hf : PySem.W.isFn K (.ref f) = true)
    (hcall : wpAny (model prog wo) A (call (.ref f) [.ref x, .ref y]) (fun v s' => ∃ b, v = .bool b ∧ Q (.done (.ret (.bool (!b)))) s') E s) : wpAny (model prog wo) A (Builtin.«object.__ne__» ⟨[.ref x, .ref y], []⟩) Q E s := by
  unfold Builtin.«object.__ne__»
  repeat (first
    | with_reducible refine wpAny_cRoomFor hu ?_
    | (refine wpAny_bind (m := callSpecialIfBound? (.ref x) (Str.ofString "__eq__") [.ref y])
        (PySem.W.ifBound_K Xk I hs hf (wpAny_mono hcall (fun r s' hr => by
          obtain ⟨b, rfl, hq⟩ := hr
          repeat (first | exact hq | exact wpAny_pure hq | exact wpAny_truthy_bool hq | (refine wpAny_bind (m := truthy (.bool _)) (wpAny_truthy_bool ?_)) | wp_step)) fun _ _ e => e)))
    | wp_step)
theorem opr_nei (hK : X.K = w.K) (hr : Room (lev n + 1) X.A) (hf : ∀ k, FnF w T n X.prog X.w X.mg X.base k) (he : ∀ c < w.nc, ∀ f, T.eqf c = some f → EqF w (w.fa f) c) : OpR X (compareOp .NotEq) (rEqi w T n true) := by
  intro pins s σ H x y v u Q I rx ry ⟨ps, S, c, ds, es, f, hc, hcf, e1, e2, st, q⟩
  show wpAny (model X.prog X.w) X.A (richCompare .NotEq v u) (EP X pins σ Q) X.xe s
  have e1' := e1
  have e2' := e2
  cases e1 with
  | @ins a dx _ fs _ h0 h1 h2 h3 =>
    cases e2 with
    | @ins b dy _ gs _ k0 k1 k2 k3 =>
      cases rx
      cases ry
      obtain ⟨mA, J, _⟩ := ins_get I.hok h1
      obtain ⟨mB, J', _⟩ := ins_get I.hok k1
      obtain ⟨od, J, _⟩ := J.look
      obtain ⟨od', J', _⟩ := J'.look
      obtain ⟨m, hF⟩ := I.fr
      have Xk := I.ok.mod.kin.keeps hF.keep
      have body : wpAny (model X.prog X.w) X.A.in1 (call (.ref (w.fa f)) [.ref a, .ref b]) (fun v s' => ∃ r, v = .bool r ∧ EP X pins σ Q (.bool (!r)) s') (fun _ _ => False) s := by
        refine wpAny_mono (two_call (X := in1X X) hK (hf f) hr.in1 (in1_to I) (v1 := .ref a) (v2 := .ref b) rfl rfl e1' e2' st q) (fun v s' z => ?_) fun _ _ h => h
        obtain ⟨z, H', I', rz, r, rfl, hq⟩ := z
        cases rz
        exact ⟨r, rfl, .bl (!r), H', in1_of I.ok I', rfl, hq⟩
      have one : wpAny (model X.prog X.w) X.A (tryCompare (.ref a) "__ne__" (.ref b)) (fun r s' => ∃ v, r = some v ∧ EP X pins σ Q v s') X.xe s := by
        unfold tryCompare
        refine wpAny_bind (ifBound_objNe Xk J (by rw [hK]; exact (he c hc f hcf).ne) (wpAny_call (codeAny_call_builtin F.cmp_object.ne.plain F.cmpEntry_ne (PySem.W.check_slot F.cmpKind_ne F.cmpSplit_ne (J.type.andThen (PySem.W.looks_mroIn Xk (by rw [hK]; exact (he c hc f hcf).ob))) (F.cmpArgs_ne _ _)
          (objNe_entry (by have := hr.in1.units0; exact this) Xk J (by rw [hK]; exact (he c hc f hcf).eq) (by rw [hK]; exact (he c hc f hcf).fn) (wpAny_mono body (fun v s' z => ?_) fun _ _ h => h.elim))))))
        obtain ⟨r, rfl, hq⟩ := z
        first | exact ⟨r, rfl, wpAny_pure ⟨_, rfl, hq⟩⟩ | exact ⟨r, rfl, wpAny_pure (wpAny_pure ⟨_, rfl, hq⟩)⟩
      unfold richCompare
      simp only [oneThing_ref]
      refine wpAny_holding (wpAny_bind (wpAny_cRoomFor hr.units0 ?_))
      refine wpAny_bind (J.type.here (wpAny_bind (J'.type.here ?_)))
      rw [cmpInfo_NotEq]
      rw [show (Value.ref (w.ca c) != Value.ref (w.ca c)) = false from by simp]
      simp only [Bool.false_eq_true, if_false]
      refine wpAny_bind (wpAny_pure ?_)
      simp only [Bool.false_eq_true, if_false]
      refine wpAny_bind (wpAny_mono one (fun r s' z => ?_) fun _ _ e => e)
      obtain ⟨v, rfl, hq⟩ := z
      exact wpAny_pure hq
theorem im_eqi {W : XK} {neg : Bool} {da db : Rho → Sx → R D} : ∀ σ H Q, tE w W 0 (fun ρ S => (da ρ S).bind fun x S => (db ρ S).bind fun y S => eqiM (gAt T n) neg x y S) σ H Q → tOp (rEqi w T n neg) (tE w W 0 da) (tE w W 0 db) σ H Q := by
  rintro σ H Q ⟨ps, H0, ρ, S, env, st, q⟩
  refine ⟨ps, H0, ρ, S, env, st, step Ret.mon q fun d S1 v H1 k1 st1 r1 q1 => ⟨ps, H0, ρ, S1, env.mono k1, st1, step Ret.mon q1 fun d2 S2 u H2 k2 st2 r2 q2 => ?_⟩⟩
  unfold eqiM at q2
  cases d with
  | ins c ds =>
    cases d2 with
    | ins c' es =>
      dsimp only at q2
      by_cases hcc : c = c'
      · subst hcc
        rw [if_pos rfl] at q2
        have hc : c < w.nc := by cases r2 with | ins h0 _ _ _ => exact h0
        cases hcf : T.eqf c with
        | none => rw [hcf] at q2; exact q2.elim
        | some f =>
        rw [hcf] at q2
        rw [Pst.bind] at q2
        refine ⟨ps, S2, c, ds, es, f, hc, hcf, Rep.mono k2.kd r1, r2, st2, Pst.imp (noX_st q2) fun d3 S3 q3 v3 H3 k3 st3 r3 => ?_⟩
        cases d3 with
        | bl r =>
          cases r3
          exact ⟨r, rfl, (show Ret w ps 0 Q (.bl (if neg then !r else r)) S3 H2 from q3) _ H3 k3 st3 (.bl _)⟩
        | _ => exact q3.elim
      · rw [if_neg hcc] at q2
        exact q2.elim
    | _ => exact q2.elim
  | _ => exact q2.elim
theorem opr_eqin (hK : X.K = w.K) (hr : Room (lev n + 1) X.A) (hf : ∀ k, FnF w T n X.prog X.w X.mg X.base k) (he : ∀ c < w.nc, ∀ f, T.eqf c = some f → EqF w (w.fa f) c) {neg : Bool} {o : CmpOp} (ho : (match o with | .Eq => !neg | .NotEq => neg | _ => false) = true) : OpR X (compareOp o) (rEqi w T n neg) := by
  cases o <;> first | cases ho; done | skip
  · cases neg with
    | false => exact opr_eqi hK hr hf he
    | true => cases ho
  · cases neg with
    | false => cases ho
    | true => exact opr_nei hK hr hf he
theorem ok_eqi {W : XK} {m : Md} {neg : Bool} {o : CmpOp} {l r : Expr} {pos : Pos} {da db : Rho → Sx → R D} (hK : X.K = w.K) (hr : Room (lev n + 1) X.A) (hf : ∀ k, FnF w T n X.prog X.w X.mg X.base k) (he : ∀ c < w.nc, ∀ f, T.eqf c = some f → EqF w (w.fa f) c) (ho : (match o with | .Eq => !neg | .NotEq => neg | _ => false) = true) (hs : noSet r = true)
    (ha : PE X l (tE w W 0 da)) (hb : PE X r (tE w W 0 db)) : PE X (.Compare l [o] [r] pos) (tE w W m fun ρ S => onlyNew m ((da ρ S).bind fun x S => (db ρ S).bind fun y S => eqiM (gAt T n) neg x y S)) :=
  peOld (peImp (pe_cmpR (opr_eqin hK hr hf he ho) ha hb (noSet_mark hs)) im_eqi) m
theorem ot_eqi {W : XK} {neg : Bool} {o : CmpOp} {l r : Expr} {pos : Pos} {da db : Rho → Sx → R D} (hK : X.K = w.K) (hr : Room (lev n + 1) X.A) (hf : ∀ k, FnF w T n X.prog X.w X.mg X.base k) (he : ∀ c < w.nc, ∀ f, T.eqf c = some f → EqF w (w.fa f) c) (ho : (match o with | .Eq => !neg | .NotEq => neg | _ => false) = true) (hs : noSet r = true)
    (ha : PE X l (tE w W 0 da)) (hb : PE X r (tE w W 0 db)) : PT X (.Compare l [o] [r] pos) (tT w W fun ρ S => truth (onlyNew 0 ((da ρ S).bind fun x S => (db ρ S).bind fun y S => eqiM (gAt T n) neg x y S))) :=
  ot_of (d := fun ρ S => (da ρ S).bind fun x S => (db ρ S).bind fun y S => eqiM (gAt T n) neg x y S) (pt_cmpR (opr_eqin hK hr hf he ho) ha hb (noSet_mark hs)) im_eqi
end
end Pu

/-! ======== Pu12e ======== -/
/-! tuple(range(..)), list(range(..)). -/
namespace Pu
open PySem PySem.Spec PyProof.Rows L2
section
variable {w : Wd} {W : XK} {X : Cx} {pos p p1 pos1 : Pos} {m : Md} {a b : Expr} {da db : Rho → Sx → R D} {ps : Option Addr} {H : Hp}
theorem rg_rep {lo hi : Int} : RepAll w ps H (rgV lo hi) (rngD lo (hi - lo).toNat) := by
  unfold rgV rngD
  generalize List.range (hi - lo).toNat = l
  induction l with
  | nil => exact .nil
  | cons i l ih => exact .cons (.int _) ih
theorem rg_ok {i j : Int} (h1 : small i = true) (h2 : small j = true) (h3 : (j - i).toNat ≤ sizeLine) : RgOk i j := by
  unfold small at h1 h2
  rw [Bool.and_eq_true, decide_eq_true_eq, decide_eq_true_eq] at h1 h2
  rw [sizeLine_eq] at h3
  exact ⟨h1.1, h1.2, h2.1, h2.2, h3⟩
theorem rng1_st {x : D} {S : Sx} {F : List D → Sx → Hp → Prop} (h : Pst w ps W (rng1D x S) H F) : ∃ i, x = .int i ∧ RgOk 0 i ∧ F (rngD 0 (i - 0).toNat) S H := by
  unfold rng1D at h
  cases x with
  | int i =>
    dsimp only at h
    split at h
    · rename_i e
      rw [Bool.and_eq_true, decide_eq_true_eq] at e
      refine ⟨i, rfl, rg_ok (by decide) e.1 (by rw [Int.sub_zero]; exact e.2), ?_⟩
      rw [Int.sub_zero]
      exact h
    · exact h.elim
  | _ => exact h.elim
theorem rng2_st {x y : D} {S : Sx} {F : List D → Sx → Hp → Prop} (h : Pst w ps W (rng2D x y S) H F) : ∃ i j, x = .int i ∧ y = .int j ∧ RgOk i j ∧ F (rngD i (j - i).toNat) S H := by
  unfold rng2D at h
  cases x with
  | int i =>
    cases y with
    | int j =>
      dsimp only at h
      split at h
      · rename_i e
        rw [Bool.and_eq_true, Bool.and_eq_true, decide_eq_true_eq] at e
        exact ⟨i, j, rfl, rfl, rg_ok e.1.1 e.1.2 e.2, h⟩
      · exact h.elim
    | _ => exact h.elim
  | _ => exact h.elim
theorem ok_tupR1 (hc : X.calm = true) (hg : Gl X "tuple") (hm : X.mg "tuple" = none) (hgr : Gl X "range") (hmr : X.mg "range" = none) (ns : NS [a]) (ha : PE X a (tE w W 0 da)) :
    PE X (.Call (.Name "tuple" p) [.Call (.Name "range" p1) [a] [] pos1] [] pos) (tE w W m fun ρ S => onlyNew m (((da ρ S).bind rng1D).bind fun ds S => .ok (.tup ds) S)) := by
  refine peOld (de := fun ρ S => ((da ρ S).bind rng1D).bind fun ds S => .ok (.tup ds) S) (peImp (pe_tupRg hc hg hm (prg_1 hgr hmr ha (na := ns.star))) ?_) m
  rintro σ H Q ⟨ps, H0, ρ, S, env, st, q⟩
  rw [Pst.bind, Pst.bind] at q
  refine ⟨ps, H0, ρ, S, env, st, Pst.imp q fun d S1 q1 v H1 k1 st1 r1 => ?_⟩
  obtain ⟨i, rfl, ok, q2⟩ := rng1_st q1
  cases r1
  exact ⟨i, rfl, ok, fun q hq => (show Ret w ps 0 Q _ S1 H from q2) _ _ (k1.trans (Keep.upd hq)) (st1.upd hq) (.tup upd_same rg_rep)⟩
theorem ok_lstR1 (hc : X.calm = true) (hg : Gl X "list") (hm : X.mg "list" = none) (hgr : Gl X "range") (hmr : X.mg "range" = none) (ns : NS [a]) (ha : PE X a (tE w W 0 da)) (hmm : m < 3) :
    PE X (.Call (.Name "list" p) [.Call (.Name "range" p1) [a] [] pos1] [] pos) (tE w W m fun ρ S => ((da ρ S).bind rng1D).bind fun ds S => .ok (.lst ds) S) := by
  refine peNew (peImp (pe_listRg hc hg hm (prg_1 hgr hmr ha (na := ns.star))) ?_) m hmm
  rintro σ H Q ⟨ps, H0, ρ, S, env, st, q⟩
  rw [Pst.bind, Pst.bind] at q
  refine ⟨ps, H0, ρ, S, env, st, Pst.imp q fun d S1 q1 v H1 k1 st1 r1 => ?_⟩
  obtain ⟨i, rfl, ok, q2⟩ := rng1_st q1
  cases r1
  exact ⟨i, rfl, ok, fun q hq => (show Ret w ps 2 Q _ S1 H from q2) _ _ (k1.trans (Keep.upd hq)) (st1.upd hq) ⟨q, _, _, rfl, rfl, st1.ne hq, k1.back hq (st1.ne hq), upd_same, rg_rep⟩⟩
theorem ok_tupR2 (hc : X.calm = true) (hg : Gl X "tuple") (hm : X.mg "tuple" = none) (hgr : Gl X "range") (hmr : X.mg "range" = none) (ns : NS [a, b]) (ha : PE X a (tE w W 0 da)) (hb : PE X b (tE w W 0 db)) :
    PE X (.Call (.Name "tuple" p) [.Call (.Name "range" p1) [a, b] [] pos1] [] pos) (tE w W m fun ρ S => onlyNew m (((da ρ S).bind fun x S => (db ρ S).bind fun y S => rng2D x y S).bind fun ds S => .ok (.tup ds) S)) := by
  refine peOld (de := fun ρ S => ((da ρ S).bind fun x S => (db ρ S).bind fun y S => rng2D x y S).bind fun ds S => .ok (.tup ds) S) (peImp (pe_tupRg hc hg hm (prg_2 hgr hmr ha hb (na := ns.star) (nb := ns.tail.star) (hp := by rw [ns.tail.star]; rfl))) ?_) m
  rintro σ H Q ⟨ps, H0, ρ, S, env, st, q⟩
  rw [Pst.bind, Pst.bind] at q
  refine ⟨ps, H0, ρ, S, env, st, Pst.imp q fun d S1 q1 v H1 k1 st1 r1 => ⟨ps, H0, ρ, S1, env.mono k1, st1, ?_⟩⟩
  have q1 := Pst.mono (F := fun a S H => Pst w ps W (rng2D d a S) H fun ds S H => Pst w ps W (R.ok (D.tup ds) S) H (Ret w ps 0 Q)) (fun a S H H' k h => Pst.mono (fun ds S H H' k h => Ret.mon _ _ _ _ k h) k h) k1 (by rw [Pst.bind] at q1; exact q1)
  refine Pst.imp q1 fun d2 S2 q2 v2 H2 k2 st2 r2 => ?_
  obtain ⟨i, j, rfl, rfl, ok, q3⟩ := rng2_st q2
  cases r1
  cases r2
  exact ⟨i, j, rfl, rfl, ok, fun q hq => (show Ret w ps 0 Q _ S2 H1 from q3) _ _ (k2.trans (Keep.upd hq)) (st2.upd hq) (.tup upd_same rg_rep)⟩
theorem ok_lstR2 (hc : X.calm = true) (hg : Gl X "list") (hm : X.mg "list" = none) (hgr : Gl X "range") (hmr : X.mg "range" = none) (ns : NS [a, b]) (ha : PE X a (tE w W 0 da)) (hb : PE X b (tE w W 0 db)) (hmm : m < 3) :
    PE X (.Call (.Name "list" p) [.Call (.Name "range" p1) [a, b] [] pos1] [] pos) (tE w W m fun ρ S => ((da ρ S).bind fun x S => (db ρ S).bind fun y S => rng2D x y S).bind fun ds S => .ok (.lst ds) S) := by
  refine peNew (peImp (pe_listRg hc hg hm (prg_2 hgr hmr ha hb (na := ns.star) (nb := ns.tail.star) (hp := by rw [ns.tail.star]; rfl))) ?_) m hmm
  rintro σ H Q ⟨ps, H0, ρ, S, env, st, q⟩
  rw [Pst.bind, Pst.bind] at q
  refine ⟨ps, H0, ρ, S, env, st, Pst.imp q fun d S1 q1 v H1 k1 st1 r1 => ⟨ps, H0, ρ, S1, env.mono k1, st1, ?_⟩⟩
  have q1 := Pst.mono (F := fun a S H => Pst w ps W (rng2D d a S) H fun ds S H => Pst w ps W (R.ok (D.lst ds) S) H (Ret w ps 2 Q)) (fun a S H H' k h => Pst.mono (fun ds S H H' k h => Ret.mon _ _ _ _ k h) k h) k1 (by rw [Pst.bind] at q1; exact q1)
  refine Pst.imp q1 fun d2 S2 q2 v2 H2 k2 st2 r2 => ?_
  obtain ⟨i, j, rfl, rfl, ok, q3⟩ := rng2_st q2
  cases r1
  cases r2
  exact ⟨i, j, rfl, rfl, ok, fun q hq => (show Ret w ps 2 Q _ S2 H1 from q3) _ _ (k2.trans (Keep.upd hq)) (st2.upd hq) ⟨q, _, _, rfl, rfl, st2.ne hq, k2.back hq (st2.ne hq), upd_same, rg_rep⟩⟩
end
end Pu

/-! ======== Pu12g ======== -/
set_option maxHeartbeats 4000000
/-! set(xs): what it makes of a list or a tuple, the loop told from outside -/
namespace Pu
open PySem PySem.Spec PyProof.Rows L2
abbrev freshSet (w : World) : Obj := { cls := .type "set", dict := none, data := .set #[] 0 (.fresh 0 0 (!w.params.followText "set-order")) }
/-- the loop of set.update fills the new set so that Post holds -/
structure Fills (P : Program) (w : World) (A : Around) (s : Shared) (l : Addr) (items : Array Value) (Post : Heap → Prop) : Prop where
  go : ∀ (I : Addr) (St : Nat → Shared → Prop) (R : Result → Shared → Prop), WalksS P w A.in1.in1.in1 I [I, l] [I] (fun a b => b = a) items.size (fun i v => items[i]? = some v) St → s.heap.objs.size ∉ [I, l] → s.heap.get? I = none →
  ∀ s1 : Shared, St 0 s1 → s1.heap.get? s.heap.objs.size = some (freshSet w) → (∀ b o, s.heap.get? b = some o → s1.heap.get? b = some o) →
  (∀ s' : Shared, Moved [s.heap.objs.size, I] (fun a b => b = a) s1 s' → Post s'.heap → (∀ b o, s.heap.get? b = some o → s'.heap.get? b = some o) → R (.ok (.ret .none)) s') →
  codeAny (model P w) A.in1.in1 (.builtin "set.update.loop" ⟨[.ref s.heap.objs.size, .ref I], []⟩) R s1
section
variable {P : Program} {w : World} {A : Around} {E : Value → Shared → Prop} {s : Shared}
theorem none_from : ∀ b, s.heap.objs.size ≤ b → s.heap.get? b = none := fun b hb => by
  cases q : s.heap.get? b with
  | none => rfl
  | some o => exact absurd (Nat.lt_of_lt_of_le (Heap.lt_size q) hb) (Nat.lt_irrefl _)
theorem set_of_list {l : Addr} {items : Array Value} {Post : Heap → Prop} {Q : Value → Shared → Prop} (hh : A.handled = none) (hl : s.heap.IsList l items) (loop : Fills P w A s l items Post)
    (h : ∀ (h' : Heap) (tk : Nat), Post h' → (∀ b o, s.heap.get? b = some o → h'.get? b = some o) → Q (.ref s.heap.objs.size) { s with heap := h', toks := tk }) :
    wpAny (model P w) A (call (.type "set") [.ref l]) Q E s := by
  obtain ⟨c, tl, hmro⟩ := F.called_set.mro
  have hmade := F.called_set.made
  have hsub := F.called_set.sub
  refine wpAny_call (codeAny_of_tree ?_)
  show wpAny _ _ (callAny (.type "set") _) _ _ _
  refine wpAny_pure ⟨Code.quiet_builtin _ (by decide +kernel), codeAny_builtin F.entry_type_call ?_⟩
  rw [Around.under_plain (weight_type_call_type "set" [.ref l] []) rfl]
  have h1 := F.called_set.notType
  have h2 := F.called_set.canCreate
  have hct := F.typeCall_set_1 (.ref l)
  repeat (any_goals (first | assumption | wp_step))
  refine codeAny_mono (code_set_led1 (.ref l) (E := E) (Q₁ := fun obj s₁ => obj = .ref s.heap.objs.size ∧ s₁ = { s with heap := s.heap.push (freshSet w) }) ⟨rfl, rfl⟩) fun r s₁ hr => ?_
  cases r with
  | error e => exact hr
  | ok fl =>
    cases fl with
    | ret obj =>
      obtain ⟨rfl, rfl⟩ := hr
      have hS : (s.heap.push (freshSet w)).get? s.heap.objs.size = some (freshSet w) := Heap.get?_push_size _ rfl
      have hT : Shared.TypeIs { s with heap := s.heap.push (freshSet w) } (.ref s.heap.objs.size) "set" := ⟨_, hS, rfl⟩
      have hli := F.called_set.init.lookup
      have hbi := F.called_set.init.bind (.ref s.heap.objs.size)
      repeat (any_goals (first | assumption | wp_step))
      refine codeAny_mono (codeAny_call_builtin (R := wants (fun r s₂ => r = .none ∧ ∃ h' tk, s₂ = { s with heap := h', toks := tk } ∧ Post h' ∧ (∀ b o, s.heap.get? b = some o → h'.get? b = some o)) E) F.called_set.init.plain F.entry_set_init (check_set_init_1 hT ?_)) fun r₂ s₂ hr₂ => ?_
      · obtain ⟨ol, hol, hcl, nl, hdl⟩ := hl
        obtain ⟨ocls, odict, odata, oslots⟩ := ol
        simp only at hcl hdl
        subst hcl; subst hdl
        have hol' : (s.heap.push (freshSet w)).get? l = some { cls := .type "list", dict := odict, data := .seq items nl, slots := oslots } := Heap.get?_push_of_some _ hol
        have hsls := F.sub_list_set
        have hslf := F.sub_list_frozenset
        have hne : (Value.type "list" == Value.type "dict") = false := by decide
        have hl1 : (s.heap.push (freshSet w)).IsList l items := ⟨_, hol', rfl, nl, rfl⟩
        clear hct h1 h2 hmade hsub hmro hli hbi h hT
        unfold Builtin.«set.__init__» noKeywords Builtin.Frozenset.updateFrom
        generalize hPI : pyIter = PI
        wp_walk
        subst hPI
        refine wpAny_pyIter_list hl1 ?_
        refine wpAny_bind (wpAny_runValue ?_)
        have hlS : l < s.heap.objs.size := Heap.lt_size hol
        have hh3 : A.in1.in1.in1.handled = none := by simp [hh]
        have hsz : (s.heap.push (freshSet w)).objs.size = s.heap.objs.size + 1 := Heap.size_push ..
        have hneI : l ≠ (s.heap.push (freshSet w)).objs.size := by
          rw [hsz]; exact Nat.ne_of_lt (Nat.lt_succ_of_lt hlS)
        have hSf : s.heap.objs.size ∉ [(s.heap.push (freshSet w)).objs.size, l] := by
          rw [hsz]; simp only [List.mem_cons, List.mem_singleton, List.not_mem_nil, or_false, not_or]
          exact ⟨Nat.ne_of_lt (Nat.lt_succ_self _), Nat.ne_of_gt hlS⟩
        refine loop.go _ _ _ (Walks.list hh3 _ l hneI items).toS hSf (none_from _ (by rw [hsz]; exact Nat.le_succ _)) _ ⟨⟨_, Heap.get?_push_size _ rfl, rfl, rfl⟩, (hl1.push _)⟩ (Heap.get?_push_of_some _ hS) (fun b o e => Heap.get?_push_of_some _ (Heap.get?_push_of_some _ e)) fun s' hm hP hkp => ?_
        obtain ⟨h', g2, d', tk', os'⟩ := s'
        have eg : g2 = s.gens := hm.gens
        have ed : d' = s.drawn := hm.drawn
        have eo : os' = s.os := hm.os
        subst eg; subst ed; subst eo
        show wpAny _ _ _ _ _ _
        refine wpAny_pure ?_
        show wpAny _ _ (ret Value.none) _ _ _
        exact wpAny_pure ⟨rfl, h', tk', rfl, hP, hkp⟩
      · cases r₂ with
        | error e => exact hr₂
        | ok fl₂ =>
          cases fl₂ with
          | ret r =>
            obtain ⟨rfl, h', tk, rfl, hP, hk'⟩ := hr₂
            repeat (any_goals (first | assumption | wp_step))
            exact h _ _ hP hk'
          | _ => exact hr₂.elim
    | _ => exact hr.elim
theorem set_of_tuple {l : Addr} {items : Array Value} {Post : Heap → Prop} {Q : Value → Shared → Prop} (hh : A.handled = none) (hl : s.heap.IsTuple l items) (loop : Fills P w A s l items Post)
    (h : ∀ (h' : Heap) (tk : Nat), Post h' → (∀ b o, s.heap.get? b = some o → h'.get? b = some o) → Q (.ref s.heap.objs.size) { s with heap := h', toks := tk }) :
    wpAny (model P w) A (call (.type "set") [.ref l]) Q E s := by
  obtain ⟨c, tl, hmro⟩ := F.called_set.mro
  have hmade := F.called_set.made
  have hsub := F.called_set.sub
  refine wpAny_call (codeAny_of_tree ?_)
  show wpAny _ _ (callAny (.type "set") _) _ _ _
  refine wpAny_pure ⟨Code.quiet_builtin _ (by decide +kernel), codeAny_builtin F.entry_type_call ?_⟩
  rw [Around.under_plain (weight_type_call_type "set" [.ref l] []) rfl]
  have h1 := F.called_set.notType
  have h2 := F.called_set.canCreate
  have hct := F.typeCall_set_1 (.ref l)
  repeat (any_goals (first | assumption | wp_step))
  refine codeAny_mono (code_set_led1 (.ref l) (E := E) (Q₁ := fun obj s₁ => obj = .ref s.heap.objs.size ∧ s₁ = { s with heap := s.heap.push (freshSet w) }) ⟨rfl, rfl⟩) fun r s₁ hr => ?_
  cases r with
  | error e => exact hr
  | ok fl =>
    cases fl with
    | ret obj =>
      obtain ⟨rfl, rfl⟩ := hr
      have hS : (s.heap.push (freshSet w)).get? s.heap.objs.size = some (freshSet w) := Heap.get?_push_size _ rfl
      have hT : Shared.TypeIs { s with heap := s.heap.push (freshSet w) } (.ref s.heap.objs.size) "set" := ⟨_, hS, rfl⟩
      have hli := F.called_set.init.lookup
      have hbi := F.called_set.init.bind (.ref s.heap.objs.size)
      repeat (any_goals (first | assumption | wp_step))
      refine codeAny_mono (codeAny_call_builtin (R := wants (fun r s₂ => r = .none ∧ ∃ h' tk, s₂ = { s with heap := h', toks := tk } ∧ Post h' ∧ (∀ b o, s.heap.get? b = some o → h'.get? b = some o)) E) F.called_set.init.plain F.entry_set_init (check_set_init_1 hT ?_)) fun r₂ s₂ hr₂ => ?_
      · obtain ⟨ol, hol, hcl, nl, hdl⟩ := hl
        obtain ⟨ocls, odict, odata, oslots⟩ := ol
        simp only at hcl hdl
        subst hcl; subst hdl
        have hol' : (s.heap.push (freshSet w)).get? l = some { cls := .type "tuple", dict := odict, data := .seq items nl, slots := oslots } := Heap.get?_push_of_some _ hol
        have hsls := F.sub_tuple_set
        have hslf := F.sub_tuple_frozenset
        have hne : (Value.type "tuple" == Value.type "dict") = false := by decide
        have hl1 : (s.heap.push (freshSet w)).IsTuple l items := ⟨_, hol', rfl, nl, rfl⟩
        clear hct h1 h2 hmade hsub hmro hli hbi h hT
        unfold Builtin.«set.__init__» noKeywords Builtin.Frozenset.updateFrom
        generalize hPI : pyIter = PI
        wp_walk
        subst hPI
        refine wpAny_pyIter_tuple hl1 ?_
        refine wpAny_bind (wpAny_runValue ?_)
        have hlS : l < s.heap.objs.size := Heap.lt_size hol
        have hh3 : A.in1.in1.in1.handled = none := by simp [hh]
        have hsz : (s.heap.push (freshSet w)).objs.size = s.heap.objs.size + 1 := Heap.size_push ..
        have hneI : l ≠ (s.heap.push (freshSet w)).objs.size := by
          rw [hsz]; exact Nat.ne_of_lt (Nat.lt_succ_of_lt hlS)
        have hSf : s.heap.objs.size ∉ [(s.heap.push (freshSet w)).objs.size, l] := by
          rw [hsz]; simp only [List.mem_cons, List.mem_singleton, List.not_mem_nil, or_false, not_or]
          exact ⟨Nat.ne_of_lt (Nat.lt_succ_self _), Nat.ne_of_gt hlS⟩
        refine loop.go _ _ _ (Walks.tuple hh3 _ l hneI items).toS hSf (none_from _ (by rw [hsz]; exact Nat.le_succ _)) _ ⟨⟨_, Heap.get?_push_size _ rfl, rfl, rfl⟩, (hl1.push _)⟩ (Heap.get?_push_of_some _ hS) (fun b o e => Heap.get?_push_of_some _ (Heap.get?_push_of_some _ e)) fun s' hm hP hkp => ?_
        obtain ⟨h', g2, d', tk', os'⟩ := s'
        have eg : g2 = s.gens := hm.gens
        have ed : d' = s.drawn := hm.drawn
        have eo : os' = s.os := hm.os
        subst eg; subst ed; subst eo
        show wpAny _ _ _ _ _ _
        refine wpAny_pure ?_
        show wpAny _ _ (ret Value.none) _ _ _
        exact wpAny_pure ⟨rfl, h', tk', rfl, hP, hkp⟩
      · cases r₂ with
        | error e => exact hr₂
        | ok fl₂ =>
          cases fl₂ with
          | ret r =>
            obtain ⟨rfl, h', tk, rfl, hP, hk'⟩ := hr₂
            repeat (any_goals (first | assumption | wp_step))
            exact h _ _ hP hk'
          | _ => exact hr₂.elim
    | _ => exact hr.elim
/-- whole numbers -/
theorem fills_ints {l : Addr} {items : Array Value} {ns : List Int} (hl : l < s.heap.objs.size) (hit : IntsAre items.toList ns) (hb : ns.length + 1 < scanBound) :
    Fills P w A s l items fun h => ∃ c, c ≤ ns.length ∧ SetR w h s.heap.objs.size (fun j => decide (j ∈ ns)) c := by
  refine ⟨fun I St R W hSf hI s1 st hS hk hR => ?_⟩
  have hisz : items.size = ns.length := by
    have q := IntsAre.length hit
    rw [Array.length_toList] at q
    exact q
  have hval : ∀ (i : Nat) (v : Value), items[i]? = some v → ∃ k t, ns[i]? = some k ∧ v = .int k t := fun i v hv => by
    have hi : i < ns.length := by rw [← hisz]; exact (Array.getElem?_eq_some_iff.mp hv).1
    obtain ⟨t, e⟩ := PyProof.Rows.IntsAre.int_at hit i v (by rw [Array.getElem?_toList]; exact hv)
    refine ⟨ns[i], t, List.getElem?_eq_getElem hi, ?_⟩
    rw [e, List.getD_eq_getElem?_getD, List.getElem?_eq_getElem hi] <;> rfl
  refine set_update_ints (A := A.in1.in1) W s.heap.objs.size hSf ns hisz hb hval (items.size - 0) 0 s1 (by omega) (Nat.zero_le _) st ⟨0, Nat.le_refl 0, setR_new_at hS⟩ fun s' c hm hc hS' => ?_
  refine hR s' hm ⟨c, by omega, hS'⟩ fun b o e => hm.heap b o ?_ (hk b o e)
  simp only [List.mem_cons, List.mem_singleton, List.not_mem_nil, or_false, not_or]
  refine ⟨Nat.ne_of_lt (Heap.lt_size e), fun hbI => ?_⟩
  rw [hbI, hI] at e; cases e
/-- tuples of whole numbers -/
theorem fills_tups {l : Addr} {items : Array Value} {ks : List (Addr × List Int)} (hl : l < s.heap.objs.size) (hit : items.toList = ks.map fun p => Value.ref p.1) (hk : ∀ p ∈ ks, IsT P w s.heap p.2 p.1) (hfew : ks.length < 64) (hu : A.units + 3 < cLine) :
    Fills P w A s l items fun h => ∃ L es ep t, SetTR P w h s.heap.objs.size L es ep t ∧ Got ks ks.length L := by
  refine ⟨fun I St R W hSf hI s1 st hS hkp hR => ?_⟩
  have hisz : items.size = ks.length := by
    have q := congrArg List.length hit
    rw [Array.length_toList, List.length_map] at q
    exact q
  have hval : ∀ (i : Nat) (v : Value), items[i]? = some v → ∃ p, ks[i]? = some p ∧ v = .ref p.1 := fun i v hv => by
    have q : items.toList[i]? = some v := by rw [Array.getElem?_toList]; exact hv
    rw [hit, List.getElem?_map] at q
    cases hq : ks[i]? with
    | none => rw [hq] at q; cases q
    | some p =>
      rw [hq] at q
      exact ⟨p, rfl, (Option.some.inj q).symm⟩
  refine set_update_tups (A := A.in1.in1) W s.heap.objs.size hSf ks hisz hfew hval s.heap hk (none_from _ (Nat.le_refl _)) (fun b hb => by rw [List.mem_singleton.mp hb]; exact hI) hu (items.size - 0) 0 s1 (by omega) (Nat.zero_le _) st hkp ⟨[], #[], 0, _, setTR_fresh hS, Got.zero ks⟩ fun s' L es ep t hm hS' g hkp' => ?_
  rw [hisz] at g
  exact hR s' hm ⟨L, es, ep, t, hS', g⟩ hkp'
end
end Pu

/-! ======== Pu12h ======== -/
/-! sorted(set(xs)) of tuples of whole numbers of any lengths -/
namespace Pu
open PySem PySem.Spec PyProof.Rows L2
section
variable {P : Program} {w : World} {A : Around} {E : Value → Shared → Prop} {s : Shared}
abbrev tupP (k : List Int) : PyData := .tuple (k.map .int)
theorem readsAll_ints {h : Heap} : ∀ {k : List Int} {vs : List Value}, IntsAre vs k → ∃ as, ReadsAll h vs (k.map .int) as
  | _, _, .nil => ⟨_, .nil⟩
  | _, _, .cons i t r => by
    obtain ⟨as, e⟩ := readsAll_ints (h := h) r
    exact ⟨_, .cons (.int i t) e⟩
theorem reads_tup {h : Heap} {k : List Int} {b : Addr} (x : IsT P w h k b) : ∃ as, Reads h (.ref b) (tupP k) as := by
  obtain ⟨o, items, n, ho, hc, hd, hi⟩ := x
  obtain ⟨as, e⟩ := readsAll_ints (h := h) (ints_of_items hi)
  exact ⟨as, .tuple ho hc hd e⟩
theorem lt_tup (x y : List Int) : PySem.W.dataLt (tupP x) (tupP y) = decide (x < y) := by
  rw [PySem.W.dataLt_tuple]
  exact PySem.W.dataLt_ints x y
theorem alike_tup (x y : List Int) : PySem.W.alike (tupP x) (tupP y) = true := by
  show PySem.W.alikeAll _ _ = true
  exact PySem.W.alike_ints x y
theorem depth_tup (x : List Int) : (tupP x).depth = 1 := by
  show PyData.depthAll _ + 1 = 1
  rw [PySem.W.depth_ints]
theorem sorted_setTU {a : Addr} {L : List (Addr × List Int)} {es : Array (Int × Value)} {ep : Nat} {t : SetTable} {Q : Value → Shared → Prop} (R : SetTR P w s.heap a L es ep t) (hh : A.handled = none) (hu : A.units + 8 < cLine)
    (hQ : ∀ s' p (out : Array Value) (c : Nat) (L' : List (Addr × List Int)), (∀ b o, s.heap.get? b = some o → s'.heap.get? b = some o) → s'.gens = s.gens → s'.os = s.os → s.heap.objs.size ≤ p →
      s'.heap.get? p = some (seqObj "list" out c) → out.toList = L'.map (fun q => Value.ref q.1) → L'.Perm L → L'.Pairwise (fun q r => ¬ r.2 < q.2) → Q (.ref p) s') :
    wpAny (model P w) A (call (.builtin "sorted") [.ref a]) Q E s := by
  obtain ⟨o, ho, hex, hd⟩ := R.ob
  have hsz := R.size
  have hfew := R.few
  refine Calls.call_function_entry kind_sorted plain_sorted entry_sorted (args_sorted1 _) ?_
  unfold Builtin.«sorted»
  refine wpAny_bind (m := checkCount "sorted" 1 1 _) (wpAny_pure ?_)
  refine wpAny_bind (collect_set (A := A.in1) hh ⟨o, ho, hex.1, hd⟩ R.fits (by unfold scanBound; omega) R.tab.ris R.led fun s1 vs k1 hz g1 o1 pm => ?_)
  have hes : es.toList.map (·.2) = L.map fun q => Value.ref q.1 := by
    rw [R.rows]
    unfold rowsOf
    rw [List.map_map] <;> rfl
  rw [hes] at pm
  have ord : ∀ vs : List Value, (∀ v ∈ vs, ∃ q ∈ L, v = Value.ref q.1) → ∃ L1 : List (Addr × List Int), vs = L1.map (fun q => Value.ref q.1) ∧ ∀ q ∈ L1, q ∈ L := by
    intro vs
    induction vs with
    | nil => intro _; exact ⟨[], rfl, fun q hq => (by cases hq)⟩
    | cons v vs ih =>
      intro hv
      obtain ⟨q, hq, e⟩ := hv v List.mem_cons_self
      obtain ⟨L1, e1, hs⟩ := ih fun u hu => hv u (List.mem_cons_of_mem _ hu)
      refine ⟨q :: L1, by rw [List.map_cons, e, e1], fun r hr => ?_⟩
      rcases List.mem_cons.mp hr with z | z
      · rw [z]; exact hq
      · exact hs r z
  have one : ∀ q ∈ L, ∀ r ∈ L, q.1 = r.1 → q = r := fun q hq r hr e => by
    have a1 := R.tup q hq
    have a2 := R.tup r hr
    rw [e] at a1
    exact Prod.ext e (a1.inj a2)
  obtain ⟨L1, hv1, hs1⟩ := ord vs fun v hv => by
    obtain ⟨q, hq, e⟩ := List.mem_map.mp (pm.mem_iff.mp hv)
    exact ⟨q, hq, e.symm⟩
  have p1 : L1.Perm L := by
    rw [hv1] at pm
    have nL : L.Nodup := nodup_of_map R.nd
    have nref : (L.map fun q => Value.ref q.1).Nodup := by
      refine List.pairwise_map.mpr (List.Pairwise.imp_of_mem (fun {q r} hq hr hne e => ?_) nL)
      injection e with e
      exact hne (one q hq r hr e)
    have n1 : L1.Nodup := nodup_of_map (pm.nodup_iff.mpr nref)
    refine (List.perm_ext_iff_of_nodup n1 nL).mpr fun q => ⟨hs1 q, fun hq => ?_⟩
    have hm : Value.ref q.1 ∈ L1.map (fun q => Value.ref q.1) := pm.mem_iff.mpr (List.mem_map.mpr ⟨q, hq, rfl⟩)
    obtain ⟨r, hr, e⟩ := List.mem_map.mp hm
    injection e with e
    rw [← one r (hs1 r hr) q hq e]
    exact hr
  have hvl : vs.length < 64 := by rw [pm.length_eq, List.length_map]; exact hfew
  refine wpAny_bind (wpAny_newList ?_ (by rw [sizeLine_eq]; omega))
  have hoL : (s1.heap.push (seqObj "list" vs.toArray 0)).get? s1.heap.objs.size = some (seqObj "list" vs.toArray 0) := Heap.get?_push_size _ rfl
  have er : PySem.W.EachIs (fun v b => ∃ as, Reads (PySem.W.sortingHeap (s1.heap.push (seqObj "list" vs.toArray 0)) s1.heap.objs.size vs) v (tupP b.2) as) vs L1 := by
    rw [hv1]
    have tk : ∀ q ∈ L1, ∃ as, Reads (PySem.W.sortingHeap (s1.heap.push (seqObj "list" (L1.map fun q => Value.ref q.1).toArray 0)) s1.heap.objs.size (L1.map fun q => Value.ref q.1)) (.ref q.1) (tupP q.2) as := fun q hq => reads_tup (P := P) (w := w) (isT_keep (R.tup q (hs1 q hq)) fun b u e => by
      have e2 := k1 b u e
      exact PySem.W.sortingHeap_old (Nat.ne_of_lt (Heap.lt_size e2)) (Heap.get?_push_of_some _ e2))
    clear hv1 pm hs1 p1
    generalize PySem.W.sortingHeap (s1.heap.push (seqObj "list" (L1.map fun q => Value.ref q.1).toArray 0)) s1.heap.objs.size (L1.map fun q => Value.ref q.1) = hp at tk ⊢
    induction L1 with
    | nil => exact .nil
    | cons q L1 ih => exact .cons (tk q List.mem_cons_self) (ih fun r hr => tk r (List.mem_cons_of_mem _ hr))
  have e1 : PySem.W.EachIs (fun v (b : Addr × List Int) => v = Value.ref b.1) vs L1 := by
    rw [hv1]
    clear er hv1 pm hs1 p1
    induction L1 with
    | nil => exact .nil
    | cons q L1 ih => exact .cons rfl ih
  have hal : PySem.W.AllAlike (L1.map fun b => tupP b.2) := PySem.W.AllAlike.of (enc := fun b : Addr × List Int => tupP b.2) fun b b' => alike_tup _ _
  have fin := PySem.W.sortVals_data (enc := fun b : Addr × List Int => tupP b.2) false e1 er hal
  have S := sortsAt_data (prog := P) (w := w) (A := A.in1.in1) (s := { s1 with heap := PySem.W.sortingHeap (s1.heap.push (seqObj "list" vs.toArray 0)) s1.heap.objs.size vs }) (PySem.W.each_map (R := fun v d => ∃ as, Reads (PySem.W.sortingHeap (s1.heap.push (seqObj "list" vs.toArray 0)) s1.heap.objs.size vs) v d as) (fun b : Addr × List Int => tupP b.2) er) hal (.inl fun d hd => by
    obtain ⟨b, _, rfl⟩ := List.mem_map.mp hd
    exact ⟨_, rfl⟩) (fun d hd => by
    obtain ⟨b, _, rfl⟩ := List.mem_map.mp hd
    rw [depth_tup]
    show A.in1.in1.units + 1 < cLine
    simp only [Around.in1]
    omega)
  have hperm := List.mergeSort_perm L1 (PySem.W.dataLe false fun b => tupP b.2)
  have hpw : (L1.mergeSort (PySem.W.dataLe false fun b => tupP b.2)).Pairwise (fun q r => ¬ r.2 < q.2) := by
    have eq : (PySem.W.dataLe false fun b : Addr × List Int => tupP b.2) = fun a b => !decide (b.2 < a.2) := by
      rw [PySem.W.dataLe_eq]
      funext a b
      show (!PySem.W.dataLt (tupP b.2) (tupP a.2)) = _
      rw [lt_tup]
    rw [eq]
    refine (List.pairwise_mergeSort (le := fun a b : Addr × List Int => !decide (b.2 < a.2)) (fun a b c h1 h2 => ?_) (fun a b => ?_) L1).imp fun {a b} h => by simpa using h
    · simp only [Bool.not_eq_true', decide_eq_false_iff_not] at h1 h2 ⊢
      exact fun h => h1 (by
        have := List.lt_of_le_of_lt (Std.not_lt.mp h2) h
        exact this)
    · simp only [Bool.or_eq_true, Bool.not_eq_true', decide_eq_false_iff_not]
      by_cases h : b.2 < a.2
      · exact .inr fun h' => List.lt_asymm h h'
      · exact .inl h
  generalize L1.mergeSort (PySem.W.dataLe false fun b => tupP b.2) = L' at *
  obtain ⟨c, hc⟩ := sortedHeap_at (vs := vs) (out := (PySem.W.sortVals (PySem.W.dataKind (PySem.W.sortingHeap (s1.heap.push (seqObj "list" vs.toArray 0)) s1.heap.objs.size vs) (L1.map fun b => tupP b.2)) false vs vs).toArray) hoL
  have hout : ∀ {out : List Value} {M : List (Addr × List Int)}, PySem.W.EachIs (fun v (b : Addr × List Int) => v = Value.ref b.1) out M → out = M.map fun q => Value.ref q.1 := by
    intro out M e
    induction e with
    | nil => rfl
    | cons h _ ih => rw [List.map_cons, h, ih]
  refine wpAny_bind (wpAny_holding (PySem.wpAny_call_entry slot_list_sort ⟨_, hoL, rfl⟩ entry_list_sort (PySem.W.list_sort_vals (s := { s1 with heap := s1.heap.push (seqObj "list" vs.toArray 0) }) hoL S (by rw [sizeLine_eq]; omega) ⟨_, rfl, ?_⟩) (args_list_sort _)))
  refine wpAny_pure ⟨_, rfl, hQ _ s1.heap.objs.size _ c L' (fun b u e => ?_) g1 o1 hz hc (by rw [List.toList_toArray]; exact hout fin) (hperm.trans p1) hpw⟩
  have q := k1 b u e
  have hlt := Heap.lt_size q
  show (sortedHeap (s1.heap.push (seqObj "list" vs.toArray 0)) s1.heap.objs.size vs _).get? b = some u
  rw [sortedHeap_old (Nat.ne_of_lt hlt) (by rw [size_push']; exact Nat.lt_succ_of_lt hlt)]
  exact Heap.get?_push_of_some _ q
end
end Pu

/-! ======== Pu12i ======== -/
/-! sorted(set(xs)), xs a list or tuple of whole numbers or of tuples of these -/
namespace Pu
open PySem PySem.Spec PyProof.Rows L2
section
variable {α : Type} [DecidableEq α] {lt : α → α → Bool}
theorem insU_mem (x : α) : ∀ (l : List α) (y : α), y ∈ insU lt x l ↔ y = x ∨ y ∈ l
  | [], y => by simp [insU]
  | z :: zs, y => by
    unfold insU
    split
    · simp
    · split
      · rename_i e
        subst e
        simp
      · rw [List.mem_cons, insU_mem x zs y, List.mem_cons]
        constructor
        · rintro (h | h | h) <;> simp [h]
        · rintro (h | h | h) <;> simp [h]
theorem sortU_mem : ∀ (l : List α) (y : α), y ∈ sortU lt l ↔ y ∈ l
  | [], y => Iff.rfl
  | x :: xs, y => by rw [sortU, insU_mem, sortU_mem xs y, List.mem_cons]
theorem insU_pw (tr : ∀ a b c, lt a b = true → lt b c = true → lt a c = true) (tot : ∀ a b, lt a b = true ∨ a = b ∨ lt b a = true) (x : α) : ∀ l : List α, l.Pairwise (fun a b => lt a b = true) → (insU lt x l).Pairwise (fun a b => lt a b = true)
  | [], _ => List.pairwise_singleton _ _
  | y :: ys, h => by
    obtain ⟨h1, h2⟩ := List.pairwise_cons.mp h
    unfold insU
    split
    · rename_i hx
      refine List.pairwise_cons.mpr ⟨fun z hz => ?_, h⟩
      rcases List.mem_cons.mp hz with rfl | hz
      · exact hx
      · exact tr _ _ _ hx (h1 z hz)
    · split
      · exact h
      · rename_i hx he
        refine List.pairwise_cons.mpr ⟨fun z hz => ?_, insU_pw tr tot x ys h2⟩
        rcases (insU_mem x ys z).mp hz with rfl | hz
        · rcases tot z y with h | h | h
          · exact absurd h hx
          · exact absurd h he
          · exact h
        · exact h1 z hz
theorem sortU_pw (tr : ∀ a b c, lt a b = true → lt b c = true → lt a c = true) (tot : ∀ a b, lt a b = true ∨ a = b ∨ lt b a = true) : ∀ l : List α, (sortU lt l).Pairwise (fun a b => lt a b = true)
  | [] => .nil
  | x :: xs => insU_pw tr tot x _ (sortU_pw tr tot xs)
theorem strict_uniq {R : α → α → Prop} (as : ∀ a b, R a b → R b a → False) : ∀ {l m : List α}, l.Pairwise R → m.Pairwise R → (∀ x, x ∈ l ↔ x ∈ m) → l = m
  | [], [], _, _, _ => rfl
  | [], b :: m, _, _, h => absurd ((h b).mpr List.mem_cons_self) (by simp)
  | a :: l, [], _, _, h => absurd ((h a).mp List.mem_cons_self) (by simp)
  | a :: l, b :: m, p, q, h => by
    obtain ⟨p1, p2⟩ := List.pairwise_cons.mp p
    obtain ⟨q1, q2⟩ := List.pairwise_cons.mp q
    have e : a = b := by
      rcases List.mem_cons.mp ((h a).mp List.mem_cons_self) with e | e
      · exact e
      rcases List.mem_cons.mp ((h b).mpr List.mem_cons_self) with e' | e'
      · exact e'.symm
      exact (as _ _ (q1 a e) (p1 b e')).elim
    subst e
    rw [strict_uniq as p2 q2 fun x => ?_]
    constructor
    · intro hx
      rcases List.mem_cons.mp ((h x).mp (List.mem_cons_of_mem _ hx)) with e | e
      · subst e; exact (as _ _ (p1 x hx) (p1 x hx)).elim
      · exact e
    · intro hx
      rcases List.mem_cons.mp ((h x).mpr (List.mem_cons_of_mem _ hx)) with e | e
      · subst e; exact (as _ _ (q1 x hx) (q1 x hx)).elim
      · exact e
end
theorem sortU_int {l ns : List Int} (hp : ns.Pairwise (· < ·)) (hm : ∀ k, k ∈ ns ↔ k ∈ l) : ns = sortU ltI' l := by
  refine strict_uniq (R := fun a b => a < b) (fun a b h1 h2 => by omega) hp ((sortU_pw (fun a b c h1 h2 => ?_) (fun a b => ?_) l).imp fun h => of_decide_eq_true h) fun x => by rw [hm, sortU_mem]
  · simp only [ltI', decide_eq_true_eq] at *; omega
  · simp only [ltI', decide_eq_true_eq]; omega
theorem row_tri (a b : List Int) : a < b ∨ a = b ∨ b < a := by
  by_cases h : a < b
  · exact .inl h
  by_cases h' : b < a
  · exact .inr (.inr h')
  exact .inr (.inl (List.le_antisymm (Std.not_lt.mp h') (Std.not_lt.mp h)))
theorem sortU_row {l ns : List (List Int)} (hp : ns.Pairwise (fun a b => ¬ b < a)) (nd : ns.Nodup) (hm : ∀ k, k ∈ ns ↔ k ∈ l) : ns = sortU ltRow l := by
  refine strict_uniq (R := fun a b => a < b) (fun a b h1 h2 => List.lt_asymm h1 h2) ?_ ((sortU_pw (fun a b c h1 h2 => ?_) (fun a b => ?_) l).imp fun h => of_decide_eq_true h) fun x => by rw [hm, sortU_mem]
  · refine (hp.and nd).imp fun {a b} h => ?_
    rcases row_tri a b with e | e | e
    · exact e
    · exact absurd e h.2
    · exact absurd e h.1
  · simp only [ltRow, decide_eq_true_eq] at *; exact List.lt_trans h1 h2
  · simp only [ltRow, decide_eq_true_eq]; exact row_tri a b
section
variable {w : Wd} {X : Cx}
theorem rowOf {ps : Option Addr} {H : Hp} {v : V} {d : D} {k : List Int} (r : Rep w ps H v d) (e : keyOf d = some k) : ∃ a, v = .ref a ∧ SqT w.K H a (k.map V.int) ∧ d = keyD k := by
  cases d with
  | tup ds =>
    obtain ⟨a, vs, rfl, h1, h2⟩ := tupOf (H0 := H) (show RepM w ps 1 H H v (.tup ds) from .inl r)
    have e' : intsD ds = some k := e
    rw [intsOf h2 e'] at h1
    refine ⟨a, rfl, h1, ?_⟩
    show D.tup ds = D.tup (k.map D.int)
    have : ∀ {ds : List D} {k : List Int}, intsD ds = some k → ds = k.map D.int := by
      intro ds
      induction ds with
      | nil => intro k e; cases e; rfl
      | cons d ds ih =>
        intro k e
        cases d with
        | int i =>
          have e2 : (intsD ds).map (i :: ·) = some k := e
          cases h : intsD ds with
          | none => rw [h] at e2; cases e2
          | some l => rw [h] at e2; cases e2; rw [ih h]; rfl
        | _ => cases e
    rw [this e']
  | _ => cases e
theorem rowsOf' {ps : Option Addr} {H : Hp} : ∀ {vs : List V} {ds : List D} {L : List (List Int)}, RepAll w ps H vs ds → rowsD ds = some L → ∃ ks : List (Addr × List Int), vs = ks.map (fun p => V.ref p.1) ∧ ks.map (·.2) = L ∧ ∀ p ∈ ks, SqT w.K H p.1 (p.2.map V.int) ∧ Rep w ps H (.ref p.1) (keyD p.2)
  | _, _, L, .nil, e => by
    have : L = [] := by injection e with e; exact e.symm
    subst this
    exact ⟨[], rfl, rfl, fun p h => by cases h⟩
  | _, d :: ds, L, .cons r t, e => by
    have e' : ((keyOf d).bind fun k => (rowsD ds).map (k :: ·)) = some L := e
    cases h1 : keyOf d with
    | none => rw [h1] at e'; cases e'
    | some k =>
      cases h2 : rowsD ds with
      | none => rw [h1, h2] at e'; cases e'
      | some L' =>
        rw [h1, h2] at e'
        cases e'
        obtain ⟨a, rfl, h3, rfl⟩ := rowOf r h1
        obtain ⟨ks, rfl, rfl, h4⟩ := rowsOf' t h2
        refine ⟨(a, k) :: ks, rfl, rfl, fun p hp => ?_⟩
        rcases List.mem_cons.mp hp with rfl | hp
        · exact ⟨h3, r⟩
        · exact h4 p hp
theorem ints_rep' {ps : Option Addr} {H : Hp} : ∀ ns : List Int, RepAll w ps H (ns.map V.int) (ns.map D.int)
  | [] => .nil
  | n :: ns => .cons (.int n) (ints_rep' ns)
theorem rep_rows {ps : Option Addr} {H : Hp} : ∀ {L : List (Addr × List Int)}, (∀ q ∈ L, Rep w ps H (.ref q.1) (keyD q.2)) → RepAll w ps H (L.map fun q => V.ref q.1) ((L.map (·.2)).map keyD)
  | [], _ => .nil
  | q :: L, h => .cons (h q List.mem_cons_self) (rep_rows fun r hr => h r (List.mem_cons_of_mem _ hr))
/-- set(x) -/
def rSetD (X : Cx) (w : Wd) : List V → Hp → VK → Prop := fun xs H Q => ∃ ps S H1 v d ds, xs = [v] ∧ RepM w ps 1 H1 H v d ∧ StOk w ps S H ∧ itemsD d = some ds ∧ ds.length < 64 ∧
  ((∃ l, intsD ds = some l ∧ ∀ a c, H a = none → c ≤ l.length → Q (.ref a) (upd H a (SetO X.w a (fun j => decide (j ∈ l)) c))) ∨
   (∃ L, rowsD ds = some L ∧ ∀ a ks, H a = none → (∀ p ∈ ks, SqT X.K H p.1 (p.2.map V.int) ∧ Rep w ps H (.ref p.1) (keyD p.2)) → (ks.map (·.2)).Nodup → (∀ r, r ∈ ks.map (·.2) ↔ r ∈ L) → ks.length < 64 → Q (.ref a) (upd H a (SetTO X.prog X.w a ks))))
theorem intsD_len : ∀ {ds : List D} {l : List Int}, intsD ds = some l → l.length = ds.length
  | [], l, e => by cases e; rfl
  | d :: ds, l, e => by
    cases d with
    | int i =>
      have e' : (intsD ds).map (i :: ·) = some l := e
      cases h : intsD ds with
      | none => rw [h] at e'; cases e'
      | some l' => rw [h] at e'; cases e'; rw [List.length_cons, List.length_cons, intsD_len h]
    | _ => cases e
theorem cr_setD (hK : X.K = w.K) (hc : X.calm = true) (hu : X.A.units + 66 < cLine) : CallR X (.type "set") (rSetD X w) := by
  intro pins s σ H xs us Q I rx ⟨ps, S, H1, v, d, ds, e, ra, st, e1, hf, q⟩
  subst e
  have hn : H s.heap.objs.size = none := I.hok.fresh (Nat.le_refl _)
  have hh := I.ok.hd hc
  have core : ∀ (a : Addr) (vs : List V) (its : List Value), v = .ref a → RepAll w ps H vs ds → Vals vs its → (s.heap.IsList a its.toArray ∨ s.heap.IsTuple a its.toArray) → a < s.heap.objs.size → wpAny (model X.prog X.w) X.A (call (.type "set") us) (EP X pins σ Q) X.xe s := by
    rintro a vs its rfl r1 rv hl hlt
    rw [Vals.ref1 rx]
    have both : ∀ {Post : Heap → Prop}, Fills X.prog X.w X.A s a its.toArray Post → (∀ (h' : Heap) (tk : Nat), Post h' → (∀ b o, s.heap.get? b = some o → h'.get? b = some o) → EP X pins σ Q (.ref s.heap.objs.size) { s with heap := h', toks := tk }) →
        wpAny (model X.prog X.w) X.A (call (.type "set") [.ref a]) (EP X pins σ Q) X.xe s := fun F h => by
      rcases hl with hl | hl
      · exact set_of_list hh hl F h
      · exact set_of_tuple hh hl F h
    rcases q with ⟨l, e2, q⟩ | ⟨L, e2, q⟩
    · rw [intsOf r1 e2] at rv
      have hll := intsD_len e2
      refine both (fills_ints (ns := l) hlt (by simpa using rv.ints) (by unfold scanBound; omega)) fun h' tk ⟨c, hcl, R⟩ k => ?_
      exact ⟨.ref s.heap.objs.size, upd H s.heap.objs.size (SetO X.w s.heap.objs.size (fun j => decide (j ∈ l)) c), I.laid (t' := tk) k (Nat.le_refl _) (setO_new R), rfl, q _ c hn hcl⟩
    · obtain ⟨ks, rfl, rfl, hk⟩ := rowsOf' r1 e2
      have hkl : ks.length = ds.length := by rw [← r1.length, List.length_map]
      refine both (fills_tups (ks := ks) hlt (by simpa using refs_of_vals rv) (fun p hp => I.isT (by rw [hK]; exact (hk p hp).1)) (by omega) (by omega)) fun h' tk ⟨L, es, ep, t, R, g⟩ k => ?_
      have sub : ∀ p ∈ L, p ∈ ks := fun p hp => List.mem_of_mem_take (g.sub p hp)
      refine ⟨.ref s.heap.objs.size, upd H s.heap.objs.size (SetTO X.prog X.w s.heap.objs.size L), I.laid (t' := tk) k (Nat.le_refl _) (setTO_new R.t0), rfl, q _ L hn (fun p hp => ⟨by rw [hK]; exact (hk p (sub p hp)).1, (hk p (sub p hp)).2⟩) R.nd (fun r => ⟨fun hr => ?_, fun hr => ?_⟩) R.few⟩
      · obtain ⟨p, hp, rfl⟩ := List.mem_map.mp hr
        exact List.mem_map.mpr ⟨p, sub p hp, rfl⟩
      · obtain ⟨p, hp, rfl⟩ := List.mem_map.mp hr
        exact g.all p (by rw [List.take_length]; exact hp)
  unfold itemsD at e1
  split at e1
  · cases e1
    obtain ⟨a, vs, rfl, h1, r1⟩ := tupOf ra
    obtain ⟨its, rv, pl, _⟩ := I.tuple (show SqT X.K H a vs by rw [hK]; exact h1)
    obtain ⟨o, ho, _⟩ := id pl
    exact core a vs its rfl r1 rv (.inr pl) (Heap.lt_size ho)
  · cases e1
    obtain ⟨a, vs, rfl, h1, r1⟩ := lstOf ra
    obtain ⟨its, rv, pl, _⟩ := I.list (Rd.sql h1)
    obtain ⟨o, ho, _⟩ := pl.isList
    exact core a vs its rfl r1 rv (.inl pl.isList) (Heap.lt_size ho)
  · cases e1
/-- sorted(set) -/
def rSrt (X : Cx) : List V → Hp → VK → Prop := fun xs H Q => ∃ a, xs = [.ref a] ∧
  ((∃ l c, H a = some (SetO X.w a (fun j => decide (j ∈ l)) c) ∧ c < 64 ∧ ∀ p, H p = none → Q (.ref p) (upd H p (.lst ((sortU ltI' l).map V.int)))) ∨
   (∃ ks, H a = some (SetTO X.prog X.w a ks) ∧ (∀ p ∈ ks, SqT X.K H p.1 (p.2.map V.int)) ∧ ∀ (L' : List (Addr × List Int)) p, L'.Perm ks → L'.Pairwise (fun q r => ¬ r.2 < q.2) → H p = none → Q (.ref p) (upd H p (.lst (L'.map fun q => V.ref q.1)))))
theorem cr_srt (hc : X.calm = true) (hu : X.A.units + 66 < cLine) : CallR X (.builtin "sorted") (rSrt X) := by
  intro pins s σ H xs us Q I rx ⟨a, e, h⟩
  subst e
  rcases h with ⟨l, c, ha, h64, q⟩ | ⟨ks, ha, hk, q⟩
  · refine cr_sortedSet hc pins s σ H _ us Q I rx ⟨a, _, c, rfl, ha, h64, fun ns p hs hm _ hn => ?_⟩
    have e0 : ns = sortU ltI' l := sortU_int hs (fun k => by rw [hm]; exact decide_eq_true_iff)
    rw [e0]
    exact q p hn
  · have R0 : SetT0 X.prog X.w s.heap a ks := (I.hok a _ ha).1
    obtain ⟨es, ep, t, R⟩ := R0.full fun p hp => I.isT (hk p hp)
    rw [Vals.ref1 rx]
    refine sorted_setTU R (I.ok.hd hc) (by omega) fun s' p out c L' k g o hp hg hout pm pw => ?_
    have hfew : L'.length < 64 := by rw [pm.length_eq]; exact R.few
    have hlen : (L'.map fun q => V.ref q.1).length ≤ sizeLine := by rw [List.length_map, sizeLine_eq]; omega
    have hn : H p = none := I.hok.fresh hp
    have hv : Vals (L'.map fun q => V.ref q.1) out.toList := by rw [hout]; exact vals_of_refs L'
    have J : Inv X pins σ (upd H p (.lst (L'.map fun q => V.ref q.1))) { s with heap := s'.heap, gens := s'.gens, drawn := s'.drawn, toks := s'.toks } :=
      I.call (ch := []) (Un.laid k hp hn) (I.hok.laid k hp ⟨hlen, out.toList, c, hv, hg⟩) (by rw [g]; exact I.bare) (fun _ z => nomatch z)
    have e : s' = { s with heap := s'.heap, gens := s'.gens, drawn := s'.drawn, toks := s'.toks } := by
      cases s'
      cases s
      cases o
      rfl
    rw [e]
    exact ⟨.ref p, _, J, rfl, q L' p pm pw hn⟩
end
section
variable {w : Wd} {W : XK} {X : Cx} {pos p p2 p3 : Pos} {m : Md} {l : Expr} {de : Rho → Sx → R D}
theorem ok_sset (hK : X.K = w.K) (hc : X.calm = true) (hu : X.A.units + 66 < cLine) (hb : ∀ x ∈ bltNames, X.mg x = none) (hg : glB X.env.scope "sorted" = true) (hg2 : glB X.env.scope "set" = true) (hm : m < 3) (ns : NS [l]) (he : PE X l (tE w W 1 de)) :
    PE X (.Call (.Name "sorted" p) [.Call (.Name "set" p2) [l] [] p3] [] pos) (tE w W m fun ρ S => (de ρ S).bind fun x S => R.of S (ssetD x)) := by
  obtain ⟨g1, g2⟩ := gl_of hg
  obtain ⟨g3, g4⟩ := gl_of hg2
  have inner := pe_callTy (p := p2) (pos := p3) (cr_setD (w := w) hK hc hu) g3 (hb _ (by decide)) rfl (pa_cons he pa_nil ns.star) (by decide) g4 ns.star ns.tail.any
  refine peNew (peImp (pe_callB (p := p) (pos := pos) (cr_srt hc hu) g1 (hb _ (by decide)) rfl (pa_cons inner pa_nil rfl) (by decide) g2 rfl rfl) ?_) m hm
  rintro σ H Q ⟨ps, H0, ρ, S, env, st, q⟩
  rw [Pst.bind] at q
  refine ⟨ps, H0, ρ, S, env, st, Pst.imp q fun d S1 q1 v H1 k1 st1 r1 => ?_⟩
  obtain ⟨d3, e, q3⟩ := R.of_st (Pst.mono Ret.mon k1 q1)
  unfold ssetD at e
  cases hi : itemsD d with
  | none => rw [hi] at e; cases e
  | some ds =>
    rw [hi] at e
    change (if ds.length < 64 then (match intsD ds with
      | some l => some (.lst ((sortU ltI' l).map .int))
      | none => (rowsD ds).map fun L => .lst ((sortU ltRow L).map keyD)) else none) = some d3 at e
    split at e
    case isFalse => cases e
    rename_i hf
    refine ⟨ps, S1, H, v, d, ds, rfl, r1, st1, hi, hf, ?_⟩
    cases hl : intsD ds with
    | some l =>
      rw [hl] at e
      cases e
      refine .inl ⟨l, rfl, fun a c ha hcl => ⟨a, rfl, .inl ⟨l, c, upd_same, by have := intsD_len hl; omega, fun p' hp' => ?_⟩⟩⟩
      have hp0 : H1 p' = none := by
        by_cases ep : p' = a
        · rw [ep]; exact ha
        · rw [upd_ne ep] at hp'; exact hp'
      exact q3 _ _ ((Keep.upd ha).trans (Keep.upd hp')) ((st1.upd ha).upd hp') ⟨p', _, _, rfl, rfl, st1.ne hp0, hp0, upd_same, ints_rep' _⟩
    | none =>
      rw [hl] at e
      cases hL : rowsD ds with
      | none => rw [hL] at e; cases e
      | some L =>
        rw [hL] at e
        cases e
        refine .inr ⟨L, rfl, fun a ks ha hk nd hmem h64 => ⟨a, rfl, .inr ⟨ks, upd_same, fun p' hp' => ?_, fun L' p' pm pw hp' => ?_⟩⟩⟩
        · rw [hK]
          exact Keep.seqT (kd_upd ha) (by rw [← hK]; exact (hk p' hp').1)
        · have hp0 : H1 p' = none := by
            by_cases ep : p' = a
            · rw [ep]; exact ha
            · rw [upd_ne ep] at hp'; exact hp'
          have ee : L'.map (·.2) = sortU ltRow L := sortU_row (List.pairwise_map.mpr pw) ((pm.map (·.2)).nodup_iff.mpr nd) fun r => by rw [(pm.map (·.2)).mem_iff]; exact hmem r
          refine q3 _ _ ((Keep.upd ha).trans (Keep.upd hp')) ((st1.upd ha).upd hp') ⟨p', _, _, rfl, rfl, st1.ne hp0, hp0, upd_same, ?_⟩
          rw [← ee]
          have hk' : ∀ q ∈ L', Rep w ps H1 (.ref q.1) (keyD q.2) := fun q hq => (hk q (pm.mem_iff.mp hq)).2
          exact (rep_rows hk').mono (fun b o hb lb => kd_upd hp' b o (kd_upd ha b o hb lb) lb)
end
end Pu

/-! ======== Pu13 ======== -/
/-! Every expression of the small language. -/
namespace Pu
open PySem PySem.Spec PyProof.Rows L2
/-- what stands of a class of exceptions -/
structure ExF (w : Wd) (c : Nat) : Prop where
  ga : PySem.W.findIn w.K (.ref (w.ca c)) "__getattribute__" = some (some (.builtin "BaseException.__getattribute__"))
  gg : PySem.W.findIn w.K (.ref (w.ca c)) "__getattr__" = some none
  exC : PySem.W.subIn w.K (.ref (w.ca c)) (.type "BaseException") = some true
  hdC : PySem.W.hasDictIn w.K (w.ca c) = true
  noN : ∀ f, w.pay c = some f → PySem.W.findIn w.K (.ref (w.ca c)) f = some none
/-- C('..') makes an exception that bears its datum -/
def RaiseOk (w : Wd) (nm : Nm) (P : Program) (wo : World) (mg : Str → Option Value) (base : Heap) (c : Nat) : Prop := ∀ X : Cx, X.prog = P → X.w = wo → X.K = w.K → X.mg = mg → X.base = base → Room 2 X.A → glB X.env.scope (nm.cl c) = true →
  ∀ (z : Str) (j : Nat) (p p2 pos : Pos), PMk X (.Call (.Name (nm.cl c) p) [.Constant (.str z) j p2] [] pos) (fun _ H Q => ∀ dx H', Keep none H H' → (match w.pay c with
    | none => True
    | some f => ∃ dd, dx = some dd ∧ H' dd = some (.xd [(f, .str z)])) → Q (.ref (w.ca c)) dx H')
structure Fx (w : Wd) (nm : Nm) (T : Tab) (n : Nat) (P : Program) (wo : World) (mg : Str → Option Value) (base : Heap) : Prop where
  blt : ∀ x ∈ bltNames, mg x = none
  cls : ∀ c < w.nc, ClsF w c
  mcl : ∀ c < w.nc, mg (nm.cl c) = some (.ref (w.ca c))
  ini : ∀ c < w.nc, IniF w T n P wo mg base c
  fn : ∀ k, FnF w T n P wo mg base k
  mfn : ∀ k, nm.top k = true → mg (nm.fn k) = some (.ref (w.fa k))
  gi : ∀ k < nm.gk, ∃ t, mg (nm.gi k) = some (.int (T.gint k) t)
  fl : T.flds = w.fl
  ex : ∀ c, nm.ex c = true → ExF w c
  mex : ∀ c, nm.ex c = true → mg (nm.cl c) = some (.ref (w.ca c))
  exm : ∀ c c', nm.ex c = true → nm.ex c' = true → PySem.W.exmOne w.K (.ref (w.ca c)) (.ref (w.ca c')) = some (c == c')
  pay : w.pay = nm.pay
  rs : ∀ c, nm.ex c = true → RaiseOk w nm P wo mg base c
  nc : nm.nc = w.nc
  eq : ∀ c < w.nc, ∀ f, T.eqf c = some f → EqF w (w.fa f) c
  mdf : ∀ c i, nm.df c = some i → ∃ fn, T.fns (T.ini c) = some fn ∧ fn.df = some i
structure Cxt (w : Wd) (nm : Nm) (T : Tab) (n : Nat) (W : XK) (X : Cx) : Prop where
  K : X.K = w.K
  calm : X.calm = true
  nd : X.N.Nodup
  room : Room (lev n + 3) X.A
  tk : Takes X (fun c d _ H => W c d H)
  fx : Fx w nm T n X.prog X.w X.mg X.base
section
variable {w : Wd} {nm : Nm} {T : Tab} {n : Nat} {W : XK} {X : Cx}
theorem Cxt.hu (C : Cxt w nm T n W X) : X.A.units + 66 < cLine := by
  have := C.room.un
  unfold lev at this
  omega
theorem Cxt.blk (C : Cxt w nm T n W X) (s : Shared) (H : Hp) (sc : Scope) (ce : Env) (fp : List Addr) : Cxt w nm T n W0 (X.blk s H sc ce fp) :=
  ⟨C.K, C.calm, C.nd, C.room, fun u s' ⟨_, _, _, _, _, _, _, _, _, _, _, _, _, _, _, _, h⟩ => h, C.fx⟩
def plainT : Expr → Bool
  | .UnaryOp .Not _ _ => false
  | .BoolOp .. => false
  | .IfExp .. => false
  | .Compare .. => false
  | _ => true
theorem isTrue_plain {x : Expr} {env : Env} (h : plainT x = true) : ∀ whole, isTrue x env whole = (do let v ← whole; standAt x.pos; holding [v] (truthy v)) := by
  intro whole
  cases x with
  | UnaryOp op a p => cases op <;> first | rfl | cases h
  | BoolOp _ _ _ => cases h
  | IfExp _ _ _ _ => cases h
  | Compare _ _ _ _ => cases h
  | _ => rfl
theorem truth_and {A : R D} {B : Sx → R D} : truth (onlyNew 0 ((truth A).bind fun x S => if x then B S else .ok (.bl false) S)) = (truth A).bind fun x S => if x then truth (B S) else .ok false S := by
  show truth (if 0 < 2 then _ else _) = _
  rw [if_pos (by decide)]
  cases truth A with
  | ok b S => cases b <;> rfl
  | exc c p S => rfl
  | stuck => rfl
theorem truth_or {A : R D} {B : Sx → R D} : truth (onlyNew 0 ((truth A).bind fun x S => if x then .ok (.bl true) S else B S)) = (truth A).bind fun x S => if x then .ok true S else truth (B S) := by
  show truth (if 0 < 2 then _ else _) = _
  rw [if_pos (by decide)]
  cases truth A with
  | ok b S => cases b <;> rfl
  | exc c p S => rfl
  | stuck => rfl
theorem truth_not {A : R D} : truth (onlyNew 0 ((truth A).bind fun x S => .ok (.bl (!x)) S)) = (truth A).bind fun x S => .ok (!x) S := by
  show truth (if 0 < 2 then _ else _) = _
  rw [if_pos (by decide)]
  cases truth A with
  | ok b S => rfl
  | exc c p S => rfl
  | stuck => rfl
theorem truth_ite {C : R Bool} {A B : Sx → R D} : truth (C.bind fun x S => if x then A S else B S) = C.bind fun x S => if x then truth (A S) else truth (B S) := by
  cases C with
  | ok b S => cases b <;> rfl
  | exc c p S => rfl
  | stuck => rfl
theorem es_len {g : G} : ∀ {es : Es} {m : Md} {ρ : Rho} {S : Sx} {ds : List D} {S' : Sx} {nm : Nm} {N : List Str} {sc : Scope} {l : List Expr}, chkEs nm N es sc l = true → es.den g m ρ S = .ok ds S' → ds.length = l.length
  | .nil, m, ρ, S, ds, S', nm, N, sc, l, h, e => by
    simp only [chkEs, List.isEmpty_iff] at h
    subst h
    cases e
    rfl
  | .cons x es, m, ρ, S, ds, S', nm, N, sc, [], h, e => by simp [chkEs] at h
  | .cons x es, m, ρ, S, ds, S', nm, N, sc, y :: l, h, e => by
    simp only [chkEs, Bool.and_eq_true] at h
    have e' : ((x.den g m ρ S).bind fun d S => (es.den g m ρ S).bind fun ds S => R.ok (d :: ds) S) = .ok ds S' := e
    cases h1 : x.den g m ρ S with
    | ok d S1 =>
      rw [h1] at e'
      have e2 : ((es.den g m ρ S1).bind fun ds S => R.ok (d :: ds) S) = .ok ds S' := e'
      cases h2 : es.den g m ρ S1 with
      | ok ds2 S2 =>
        rw [h2] at e2
        cases e2
        rw [List.length_cons, List.length_cons, es_len h.2 h2]
      | exc c p S2 => rw [h2] at e2; cases e2
      | stuck => rw [h2] at e2; cases e2
    | exc c p S1 => rw [h1] at e'; cases e'
    | stuck => rw [h1] at e'; cases e'
theorem nms_of {N : List Str} {s2 : Scope} {X' : Cx} (hN : X'.N = N) (loc : ∀ x, locB s2 x = true → LocF X' x) : ∀ {is : List Nat} {es : List Expr}, nmsB N s2 is es = true → NmsOk X' is es
  | [], [], _ => .nil
  | [], _ :: _, h => by cases h
  | _ :: _, [], h => by cases h
  | i :: is, e :: es, h => by
    have h' : (nmB N s2 i e && nmsB N s2 is es) = true := h
    rw [Bool.and_eq_true] at h'
    obtain ⟨h1, h2⟩ := h'
    unfold nmB at h1
    split at h1
    · rename_i x p
      rw [Bool.and_eq_true] at h1
      refine .cons ?_ (loc x h1.2) (nms_of hN loc h2)
      rw [hN]
      have h3 := h1.1
      unfold eqS at h3
      split at h3
      · rename_i y e
        rw [e, of_decide_eq_true h3]
      · cases h3
    · cases h1
theorem pg_of {N : List Str} {s2 : Scope} {X' : Cx} (hK : X'.K = w.K) (hc : X'.calm = true) (nd : X'.N.Nodup) (hN : X'.N = N) (loc : ∀ x, locB s2 x = true → LocF X' x) {tg : Tg} {e : Expr} (h : tgB N s2 tg e = true) : PG X' e (tG w tg) := by
  cases tg with
  | nm i =>
    have h1 : nmB N s2 i e = true := h
    unfold nmB at h1
    split at h1
    · rename_i x p
      rw [Bool.and_eq_true] at h1
      refine pg_nm nd ?_ (loc x h1.2)
      rw [hN]
      have h3 := h1.1
      unfold eqS at h3
      split at h3
      · rename_i y e
        rw [e, of_decide_eq_true h3]
      · cases h3
    · cases h1
  | tp is =>
    cases e with
    | Tuple es k p => exact pg_tp hK hc nd (nms_of hN loc h)
    | _ => cases h
theorem loc_blk (s : Shared) (H : Hp) (s2 : Scope) (C : Addr) (cl : List (Str × Addr)) (fp : List Addr) : ∀ x, locB s2 x = true → LocF (X.blk s H s2 (compEnvC s2 cl C X.env) fp) x := by
  intro x h
  unfold locB at h
  split at h
  · rename_i e
    have e2 : (relS s2 X.env.scope).names.lookup x = some .local := lookup_relS_keep (by decide) e
    exact ⟨.inl e2, .inr e2⟩
  · rename_i e
    have e2 : (relS s2 X.env.scope).names.lookup x = some .cell := lookup_relS_keep (by decide) e
    exact ⟨.inr e2, .inl (by show (s2.names.lookup x == some .cell) = true; rw [e]; rfl)⟩
  · cases h
theorem tgIn_ids {own : List Nat} {tg : Tg} (h : tgIn own tg = true) : ∀ i ∈ tg.ids, i ∈ own := by
  cases tg with
  | nm i =>
    intro j hj
    have e : j = i := by simpa [Tg.ids] using hj
    subst e
    simpa [tgIn] using h
  | tp is =>
    intro j hj
    have h' : is.all own.contains = true := h
    rw [List.all_eq_true] at h'
    simpa using h' j hj
theorem noSet_fold {e : Expr} {env : Env} (h : noSet e = true) : ∀ x, foldedSetIterable e env x = pure x := by
  intro x
  cases e <;> first | rfl | cases h
end
section
variable {w : Wd} {nm : Nm} {T : Tab} {n : Nat}
/-- an expression: as a value, as a test, in a row of and | or -/
structure ET (w : Wd) (W : XK) (X : Cx) (x : Expr) (d : Md → Rho → Sx → R D) : Prop where
  e : ∀ m, m < 3 → PE X x (tE w W m (d m))
  t : PT X x (tT w W fun ρ S => truth (d 0 ρ S))
  b : ∀ op vs p, x = .BoolOp op vs p → PW X x (tT w W fun ρ S => truth (d 0 ρ S))
theorem ET.plain {w : Wd} {W : XK} {X : Cx} {x : Expr} {d : Md → Rho → Sx → R D} (hp : plainT x = true) (h : ∀ m, m < 3 → PE X x (tE w W m (d m))) : ET w W X x d :=
  ⟨h, ok_truth (h 0 (by decide)) (isTrue_plain hp), fun op vs p e => by subst e; cases hp⟩
theorem pwImp {w : Wd} {W : XK} {X : Cx} {e : Expr} {d d' : Rho → Sx → R Bool} (h : PW X e (tT w W d)) (i : ∀ ρ S, d' ρ S = d ρ S) : PW X e (tT w W d') := by
  have : d' = d := funext fun ρ => funext fun S => i ρ S
  rw [this]
  exact h
mutual
theorem E.ok : ∀ (e : E) {W : XK} {X : Cx} (C : Cxt w nm T n W X) (x : Expr), chkE nm X.N e X.env.scope x = true → ET w W X x (e.den (gAt T n))
  | .no, W, X, C, x, h => by simp [chkE] at h
  | .var i, W, X, C, x, h => by
    unfold chkE at h
    split at h
    · exact ET.plain rfl fun m hm => ok_var h
    · cases h
  | .int i, W, X, C, x, h => by
    unfold chkE at h
    split at h
    · rw [← of_decide_eq_true h]
      exact ET.plain rfl fun m hm => ok_const pe_int fun _ _ => .int i
    · cases h
  | .bl b, W, X, C, x, h => by
    unfold chkE at h
    split at h
    · rw [← beq_iff_eq.mp h]
      exact ET.plain rfl fun m hm => ok_const pe_bl fun _ _ => .bl b
    · cases h
  | .non, W, X, C, x, h => by
    unfold chkE at h
    split at h
    · exact ET.plain rfl fun m hm => ok_const pe_non fun _ _ => .non
    · cases h
  | .str s, W, X, C, x, h => by
    unfold chkE at h
    split at h
    · rw [← of_decide_eq_true h]
      exact ET.plain rfl fun m hm => ok_const pe_str fun _ _ => .str s
    · cases h
  | .gfn k, W, X, C, x, h => by
    unfold chkE at h
    split at h
    · simp only [Bool.and_eq_true, decide_eq_true_eq] at h
      obtain ⟨⟨h1, rfl⟩, h3⟩ := h
      exact ET.plain rfl fun m hm => ok_gfn (C.fx.mfn k h1) h3
    · cases h
  | .gint k, W, X, C, x, h => by
    unfold chkE at h
    split at h
    · simp only [Bool.and_eq_true, decide_eq_true_eq] at h
      obtain ⟨⟨h1, rfl⟩, h3⟩ := h
      obtain ⟨t, ht⟩ := C.fx.gi k h1
      exact ET.plain rfl fun m hm => ok_gint ht h3
    · cases h
  | .tup es, W, X, C, x, h => by
    unfold chkE at h
    split at h
    · rename_i l k p
      simp only [Bool.and_eq_true, decide_eq_true_eq] at h
      exact ET.plain rfl fun m hm => ok_tup (Es.ok es C l 0 (by decide) h.1) h.2 fun ρ S ds S' e => es_len h.1 e
    · cases h
  | .lst es, W, X, C, x, h => by
    unfold chkE at h
    split at h
    · rename_i l p
      simp only [Bool.and_eq_true, decide_eq_true_eq] at h
      exact ET.plain rfl fun m hm => ok_lst (Es.ok es C l 0 (by decide) h.1) h.2 hm fun ρ S ds S' e => es_len h.1 e
    · cases h
  | .bin op a b, W, X, C, x, h => by
    unfold chkE at h
    split at h
    · simp only [Bool.and_eq_true] at h
      exact ET.plain rfl fun m hm => ok_bin C.K h.1.1 hm ((E.ok a C _ h.1.2).e 1 (by decide)) ((E.ok b C _ h.2).e 1 (by decide))
    · cases h
  | .neg a, W, X, C, x, h => by
    unfold chkE at h
    split at h
    · exact ET.plain rfl fun m hm => ok_neg ((E.ok a C _ h).e 0 (by decide))
    · cases h
  | .cmp c a b, W, X, C, x, h => by
    unfold chkE at h
    split at h
    · simp only [Bool.and_eq_true] at h
      have ha := (E.ok a C _ h.1.1.2).e 1 (by decide)
      have hb := (E.ok b C _ h.1.2).e 1 (by decide)
      exact ⟨fun m hm => ok_cmp C.K C.hu h.1.1.1 h.2 ha hb, ot_cmp C.K C.hu h.1.1.1 h.2 ha hb, fun _ _ _ e => nomatch e⟩
    · cases h
  | .eqi n a b, W, X, C, x, h => by
    unfold chkE at h
    split at h
    · simp only [Bool.and_eq_true] at h
      have ha := (E.ok a C _ h.1.2).e 0 (by decide)
      have hb := (E.ok b C _ h.2).e 0 (by decide)
      exact ⟨fun m hm => ok_eqi C.K (C.room.mono (by omega)) C.fx.fn C.fx.eq h.1.1.1 h.1.1.2 ha hb, ot_eqi C.K (C.room.mono (by omega)) C.fx.fn C.fx.eq h.1.1.1 h.1.1.2 ha hb, fun _ _ _ e => nomatch e⟩
    · cases h
  | .chain c1 c2 a b d, W, X, C, x, h => by
    unfold chkE at h
    split at h
    · simp only [Bool.and_eq_true] at h
      obtain ⟨⟨⟨⟨⟨⟨h1, h2⟩, h3⟩, h4⟩, h5⟩, h6⟩, h7⟩ := h
      have ha := (E.ok a C _ h3).e 0 (by decide)
      have hb := (E.ok b C _ h4).e 0 (by decide)
      have hd := (E.ok d C _ h5).e 0 (by decide)
      exact ⟨fun m hm => ok_chain C.K C.hu h1 h2 h7 ha hb hd, ot_chain C.K C.hu h1 h2 h7 ha hb hd, fun _ _ _ e => nomatch e⟩
    · cases h
  | .isN n a, W, X, C, x, h => by
    unfold chkE at h
    split at h
    · rw [Bool.and_eq_true] at h
      have ha := (E.ok a C _ h.2).e 0 (by decide)
      exact ⟨fun m hm => ok_isN h.1 ha, ot_isN h.1 ha, fun _ _ _ e => nomatch e⟩
    · cases h
  | .and a b, W, X, C, x, h => by
    unfold chkE at h
    split at h
    · rw [Bool.and_eq_true] at h
      have ha := E.ok a C _ h.1
      have hb := E.ok b C _ h.2
      have hw := ot_and (pos := ‹Pos›) ha.t (ot_and1 (op := .And) (pos := ‹Pos›) hb.t)
      have hw2 := pwImp hw fun ρ S => truth_and (A := a.den (gAt T n) 0 ρ S) (B := fun S => b.den (gAt T n) 0 ρ S)
      exact ⟨fun m hm => ok_and (ha.e 0 (by decide)) (pe_one (hb.e 0 (by decide))), hw2.pt, fun _ _ _ _ => hw2⟩
    · rw [Bool.and_eq_true] at h
      have ha := E.ok a C _ h.1
      have hb := E.ok b C _ h.2
      have hw := ot_and ha.t (hb.b _ _ _ rfl)
      have hw2 := pwImp hw fun ρ S => truth_and (A := a.den (gAt T n) 0 ρ S) (B := fun S => b.den (gAt T n) 0 ρ S)
      exact ⟨fun m hm => ok_and (ha.e 0 (by decide)) (hb.e 0 (by decide)), hw2.pt, fun _ _ _ _ => hw2⟩
    · cases h
  | .or a b, W, X, C, x, h => by
    unfold chkE at h
    split at h
    · rw [Bool.and_eq_true] at h
      have ha := E.ok a C _ h.1
      have hb := E.ok b C _ h.2
      have hw := ot_or (pos := ‹Pos›) ha.t (ot_and1 (op := .Or) (pos := ‹Pos›) hb.t)
      have hw2 := pwImp hw fun ρ S => truth_or (A := a.den (gAt T n) 0 ρ S) (B := fun S => b.den (gAt T n) 0 ρ S)
      exact ⟨fun m hm => ok_or (ha.e 0 (by decide)) (pe_one (hb.e 0 (by decide))), hw2.pt, fun _ _ _ _ => hw2⟩
    · rw [Bool.and_eq_true] at h
      have ha := E.ok a C _ h.1
      have hb := E.ok b C _ h.2
      have hw := ot_or ha.t (hb.b _ _ _ rfl)
      have hw2 := pwImp hw fun ρ S => truth_or (A := a.den (gAt T n) 0 ρ S) (B := fun S => b.den (gAt T n) 0 ρ S)
      exact ⟨fun m hm => ok_or (ha.e 0 (by decide)) (hb.e 0 (by decide)), hw2.pt, fun _ _ _ _ => hw2⟩
    · cases h
  | .not a, W, X, C, x, h => by
    unfold chkE at h
    split at h
    · have ha := E.ok a C _ h
      exact ⟨fun m hm => ok_not (ha.e 0 (by decide)), ptImp (ot_not ha.t) fun ρ S => truth_not, fun _ _ _ e => nomatch e⟩
    · cases h
  | .ite c a b, W, X, C, x, h => by
    unfold chkE at h
    split at h
    · simp only [Bool.and_eq_true] at h
      have hc := E.ok c C _ h.1.1
      have ha := E.ok a C _ h.1.2
      have hb := E.ok b C _ h.2
      exact ⟨fun m hm => ok_ite hc.t (ha.e m hm) (hb.e m hm), ptImp (ot_ite hc.t ha.t hb.t) fun ρ S => truth_ite (A := fun S => a.den (gAt T n) 0 ρ S) (B := fun S => b.den (gAt T n) 0 ρ S), fun _ _ _ e => nomatch e⟩
    · cases h
  | .call k es, W, X, C, x, h => by
    unfold chkE at h
    split at h
    · simp only [Bool.and_eq_true, decide_eq_true_eq] at h
      obtain ⟨⟨⟨h1, rfl⟩, h3⟩, h4⟩ := h
      exact ET.plain rfl fun m hm => ok_call C.K (C.fx.fn k) (C.fx.mfn k h1) (C.room.mono (by omega)) C.tk h3 hm (chks_ns h4) (Es.ok es C _ 0 (by decide) h4)
    · cases h
  | .callv i es, W, X, C, x, h => by
    unfold chkE at h
    split at h
    · simp only [Bool.and_eq_true] at h
      exact ET.plain rfl fun m hm => ok_callv C.K C.fx.fn (C.room.mono (by omega)) C.tk h.1 (chks_ns h.2) (Es.ok es C _ 0 (by decide) h.2)
    · cases h
  | .makeD c es i, W, X, C, x, h => by
    unfold chkE at h
    split at h
    · simp only [Bool.and_eq_true, decide_eq_true_eq] at h
      obtain ⟨⟨⟨⟨h1, rfl⟩, h3⟩, h4⟩, h5⟩ := h
      rw [C.fx.nc] at h1
      exact ET.plain rfl fun m hm => ok_makeD C.K (C.fx.ini c h1) (C.fx.mdf c i h5) (C.fx.mcl c h1) (C.room.mono (by omega)) C.tk h3 (chks_ns h4) (Es.ok es C _ 0 (by decide) h4)
    · cases h
  | .make c es, W, X, C, x, h => by
    unfold chkE at h
    split at h
    · simp only [Bool.and_eq_true, decide_eq_true_eq] at h
      obtain ⟨⟨⟨h1, rfl⟩, h3⟩, h4⟩ := h
      rw [C.fx.nc] at h1
      exact ET.plain rfl fun m hm => ok_make C.K (C.fx.ini c h1) (C.fx.mcl c h1) (C.room.mono (by omega)) C.tk h3 (chks_ns h4) (Es.ok es C _ 0 (by decide) h4)
    · cases h
  | .meth k o es, W, X, C, x, h => by simp [chkE] at h
  | .blt f es, W, X, C, x, h => by
    unfold chkE at h
    split at h
    · simp only [Bool.and_eq_true, decide_eq_true_eq] at h
      obtain ⟨⟨rfl, h2⟩, h3⟩ := h
      exact ET.plain rfl fun m hm => ok_blt C.K C.calm C.hu C.fx.blt h2 hm (chks_ns h3) (Es.ok es C _ 1 (by decide) h3)
    · cases h
  | .isin a one ts, W, X, C, x, h => by
    unfold chkE at h
    split at h
    · rename_i y p l r q
      simp only [Bool.and_eq_true, decide_eq_true_eq] at h
      obtain ⟨⟨⟨rfl, h2⟩, h3⟩, h4⟩ := h
      have own : ∀ (t : Ty) (e : Expr), tyB nm X.env.scope t e = true → ∀ c, t = .own c → c < w.nc := by
        rintro t e ht c rfl
        unfold tyB at ht
        split at ht
        · rw [Bool.and_eq_true] at ht
          rw [← C.fx.nc]
          exact of_decide_eq_true ht.2
        · cases ht
      have nsr : ∀ (t : Ty) (e : Expr), tyB nm X.env.scope t e = true → ∀ y p, e ≠ .Starred y p := by
        rintro t e ht y p rfl
        cases ht
      split at h4
      · refine ET.plain rfl fun m hm => ok_isi1 C.K C.fx.cls C.fx.blt C.fx.mcl h2 (own _ _ h4) h4 ?_ ((E.ok a C _ h3).e 0 (by decide))
        intro z hz
        rcases List.mem_cons.mp hz with rfl | hz
        · exact chk_ns h3
        · rcases List.mem_cons.mp hz with rfl | hz
          · exact nsr _ _ h4
          · cases hz
      · simp only [Bool.and_eq_true, decide_eq_true_eq] at h4
        obtain ⟨⟨h5, h6⟩, h7⟩ := h4
        cases ts with
        | nil => cases h6
        | cons t0 ts =>
          have owns : ∀ {l : List Ty} {es : List Expr}, tysB nm X.env.scope l es = true → ∀ c, Ty.own c ∈ l → c < w.nc := by
            intro l
            induction l with
            | nil => intro es _ c hc; cases hc
            | cons t l ih =>
              intro es h c hc
              cases es with
              | nil => cases h
              | cons e es =>
                have h' : (tyB nm X.env.scope t e && tysB nm X.env.scope l es) = true := h
                rw [Bool.and_eq_true] at h'
                rcases List.mem_cons.mp hc with e1 | hc
                · exact own _ _ h'.1 c e1.symm
                · exact ih h'.2 c hc
          refine ET.plain rfl fun m hm => ok_isi2 C.K C.fx.cls C.fx.blt C.fx.mcl h2 h7 (owns h5) h5 ?_ ((E.ok a C _ h3).e 0 (by decide))
          intro z hz
          rcases List.mem_cons.mp hz with rfl | hz
          · exact chk_ns h3
          · rcases List.mem_cons.mp hz with rfl | hz
            · intro y p e
              cases e
            · cases hz
      · cases h4
    · cases h
  | .fld a f, W, X, C, x, h => by
    unfold chkE at h
    split at h
    · simp only [Bool.and_eq_true, decide_eq_true_eq] at h
      obtain ⟨rfl, h2⟩ := h
      exact ET.plain rfl fun m hm => ok_fld C.K C.fx.fl C.fx.cls rfl ((E.ok a C _ h2).e 0 (by decide))
    · cases h
  | .idx a b, W, X, C, x, h => by
    unfold chkE at h
    split at h
    · simp only [Bool.and_eq_true] at h
      exact ET.plain rfl fun m hm => ok_idx C.K h.1.1 ((E.ok a C _ h.1.2).e 1 (by decide)) ((E.ok b C _ h.2).e 0 (by decide))
    · cases h
  | .slc a lo hi, W, X, C, x, h => by
    unfold chkE at h
    split at h
    · simp only [Bool.and_eq_true] at h
      obtain ⟨⟨h1, h2⟩, h3⟩ := h
      rename_i l pl pq p2' p3'
      have p1 : PO X pl (tP w W fun ρ S => (match (generalizing := false) lo with | .no => .ok none S | _ => partR (lo.den (gAt T n) 0 ρ S) : R (Option Int))) := by
        split at h2
        · cases pl with
          | none => exact ok_nopart
          | some z => cases h2
        · rename_i hne
          cases pl with
          | none => cases h2
          | some z =>
            have hz := ok_part ((E.ok lo C z h2).e 0 (by decide))
            first
              | exact hz
              | (split
                 · exact absurd rfl hne
                 · exact hz)
      have p2 : PO X pq (tP w W fun ρ S => (match (generalizing := false) hi with | .no => .ok none S | _ => partR (hi.den (gAt T n) 0 ρ S) : R (Option Int))) := by
        split at h3
        · cases pq with
          | none => exact ok_nopart
          | some z => cases h3
        · rename_i hne
          cases pq with
          | none => cases h3
          | some z =>
            have hz := ok_part ((E.ok hi C z h3).e 0 (by decide))
            first
              | exact hz
              | (split
                 · exact absurd rfl hne
                 · exact hz)
      exact ET.plain rfl fun m hm => ok_slc C.K hm ((E.ok a C _ h1).e 1 (by decide)) p1 p2
    · cases h
  | .lc elt tg src cond own, W, X, C, x, h => by
    unfold chkE at h
    split at h
    · rename_i el t it ifs s2 p
      simp only [Bool.and_eq_true, decide_eq_true_eq] at h
      obtain ⟨⟨⟨⟨⟨⟨⟨h1, h2⟩, h3⟩, h4⟩, h5⟩, h6⟩, h7⟩, h8⟩ := h
      refine ET.plain rfl fun m hm => ok_lc hm C.calm C.nd (Src.ok src C t it 1 (by decide) h1) h2 h5 (tgIn_ids h4) (fun s H c cl fp => pg_of (X' := X.blk s H s2 (compEnvC s2 cl c X.env) fp) C.K C.calm C.nd rfl (loc_blk s H s2 c cl fp) h3) (fun s H c cl fp => ?_) (fun s H c cl fp => (E.ok elt (C.blk s H s2 _ fp) el h6).e 0 (by decide)) (noSet_fold h8)
      split at h7
      · exact pts_no
      · cases h7
      · exact pts_one (E.ok cond (C.blk s H s2 _ fp) _ h7).t
      · cases h7
    · cases h
  | .lc2 .., W, X, C, x, h => by simp [chkE] at h
  | .tupS s, W, X, C, x, h => by
    unfold chkE at h
    split at h
    · simp only [Bool.and_eq_true, decide_eq_true_eq] at h
      obtain ⟨⟨⟨⟨rfl, h2⟩, rfl⟩, h4⟩, h5⟩ := h
      cases s with
      | rng1 a =>
        dsimp only at h5
        split at h5
        · refine ET.plain rfl fun m hm => ok_tupR1 C.calm (gl_of h2).1 (C.fx.blt _ (by decide)) (gl_of h4).1 (C.fx.blt _ (by decide)) (fun z hz => ?_) ((E.ok a C _ h5).e 0 (by decide))
          rcases List.mem_cons.mp hz with rfl | hz
          · exact chk_ns h5
          · cases hz
        · cases h5
      | rng2 a b =>
        dsimp only at h5
        split at h5
        · rw [Bool.and_eq_true] at h5
          refine ET.plain rfl fun m hm => ok_tupR2 C.calm (gl_of h2).1 (C.fx.blt _ (by decide)) (gl_of h4).1 (C.fx.blt _ (by decide)) (fun z hz => ?_) ((E.ok a C _ h5.1).e 0 (by decide)) ((E.ok b C _ h5.2).e 0 (by decide))
          rcases List.mem_cons.mp hz with rfl | hz
          · exact chk_ns h5.1
          · rcases List.mem_cons.mp hz with rfl | hz
            · exact chk_ns h5.2
            · cases hz
        · cases h5
      | _ => cases h5
    · cases h
  | .lstS s, W, X, C, x, h => by
    unfold chkE at h
    split at h
    · simp only [Bool.and_eq_true, decide_eq_true_eq] at h
      obtain ⟨⟨⟨⟨rfl, h2⟩, rfl⟩, h4⟩, h5⟩ := h
      cases s with
      | rng1 a =>
        dsimp only at h5
        split at h5
        · refine ET.plain rfl fun m hm => ok_lstR1 C.calm (gl_of h2).1 (C.fx.blt _ (by decide)) (gl_of h4).1 (C.fx.blt _ (by decide)) (fun z hz => ?_) ((E.ok a C _ h5).e 0 (by decide)) hm
          rcases List.mem_cons.mp hz with rfl | hz
          · exact chk_ns h5
          · cases hz
        · cases h5
      | rng2 a b =>
        dsimp only at h5
        split at h5
        · rw [Bool.and_eq_true] at h5
          refine ET.plain rfl fun m hm => ok_lstR2 C.calm (gl_of h2).1 (C.fx.blt _ (by decide)) (gl_of h4).1 (C.fx.blt _ (by decide)) (fun z hz => ?_) ((E.ok a C _ h5.1).e 0 (by decide)) ((E.ok b C _ h5.2).e 0 (by decide)) hm
          rcases List.mem_cons.mp hz with rfl | hz
          · exact chk_ns h5.1
          · rcases List.mem_cons.mp hz with rfl | hz
            · exact chk_ns h5.2
            · cases hz
        · cases h5
      | _ => cases h5
    · cases h
  | .sset e, W, X, C, x, h => by
    unfold chkE at h
    split at h
    · simp only [Bool.and_eq_true, decide_eq_true_eq] at h
      obtain ⟨⟨⟨⟨rfl, h2⟩, rfl⟩, h4⟩, h5⟩ := h
      refine ET.plain rfl fun m hm => ok_sset C.K C.calm C.hu C.fx.blt h2 h4 hm ?_ ((E.ok e C _ h5).e 1 (by decide))
      intro z hz
      rcases List.mem_cons.mp hz with rfl | hz
      · exact chk_ns h5
      · cases hz
    · cases h
  | .sortk e k, W, X, C, x, h => by
    unfold chkE at h
    split at h
    · simp only [Bool.and_eq_true, decide_eq_true_eq] at h
      obtain ⟨⟨⟨⟨⟨⟨rfl, h2⟩, h3⟩, rfl⟩, h5⟩, rfl⟩, h7⟩ := h
      refine ET.plain rfl fun m hm => ok_sortk C.K C.hu (C.fx.fn k) (C.fx.mfn k h5) (C.room.mono (by omega)) (gl_of h2).1 (C.fx.blt _ (by decide)) h7 ?_ hm ((E.ok e C _ h3).e 1 (by decide))
      intro z hz
      rcases List.mem_cons.mp hz with rfl | hz
      · exact chk_ns h3
      · cases hz
    · cases h
  | .dix i k, W, X, C, x, h => by
    unfold chkE at h
    split at h
    · simp only [Bool.and_eq_true] at h
      exact ET.plain rfl fun m hm => ok_dix C.hu h.1.1 h.1.2 ((E.ok k C _ h.2).e 0 (by decide))
    · cases h
  | .dgd i k d, W, X, C, x, h => by
    unfold chkE at h
    split at h
    · simp only [Bool.and_eq_true, decide_eq_true_eq] at h
      obtain ⟨⟨⟨⟨rfl, h2⟩, h3⟩, h4⟩, h5⟩ := h
      refine ET.plain rfl fun m hm => ok_dgd C.hu h2 h5 ?_ ((E.ok k C _ h3).e 0 (by decide)) ((E.ok d C _ h4).e 0 (by decide))
      intro z hz
      rcases List.mem_cons.mp hz with rfl | hz
      · exact chk_ns h3
      · rcases List.mem_cons.mp hz with rfl | hz
        · exact chk_ns h4
        · cases hz
    · cases h
  | .din n k i, W, X, C, x, h => by
    unfold chkE at h
    split at h
    · simp only [Bool.and_eq_true] at h
      have hk := (E.ok k C _ h.2).e 0 (by decide)
      exact ⟨fun m hm => ok_din C.hu h.1.1 h.1.2 hk, ot_din C.hu h.1.1 h.1.2 hk, fun _ _ _ e => nomatch e⟩
    · cases h
  | .dlen i, W, X, C, x, h => by
    unfold chkE at h
    split at h
    · simp only [Bool.and_eq_true, decide_eq_true_eq] at h
      obtain ⟨⟨rfl, h2⟩, h3⟩ := h
      exact ET.plain rfl fun m hm => ok_dlen (gl_of h2).1 (C.fx.blt _ (by decide)) h3
    · cases h
  | .dls i, W, X, C, x, h => by
    unfold chkE at h
    split at h
    · simp only [Bool.and_eq_true, decide_eq_true_eq] at h
      obtain ⟨⟨rfl, h2⟩, h3⟩ := h
      exact ET.plain rfl fun m hm => ok_dls C.calm (gl_of h2).1 (C.fx.blt _ (by decide)) h3 hm
    · cases h
  | .sortkd i k, W, X, C, x, h => by
    unfold chkE at h
    split at h
    · simp only [Bool.and_eq_true, decide_eq_true_eq] at h
      obtain ⟨⟨⟨⟨⟨⟨rfl, h2⟩, h3⟩, rfl⟩, h5⟩, rfl⟩, h7⟩ := h
      exact ET.plain rfl fun m hm => ok_sortkd C.K C.calm C.hu (C.fx.fn k) (C.fx.mfn k h5) (C.room.mono (by omega)) (gl_of h2).1 (C.fx.blt _ (by decide)) h7 h3 hm
    · cases h
theorem Es.ok : ∀ (es : Es) {W : XK} {X : Cx} (C : Cxt w nm T n W X) (l : List Expr) (m : Md), m < 2 → chkEs nm X.N es X.env.scope l = true → PA X l (tA w W m (es.den (gAt T n) m))
  | .nil, W, X, C, l, m, hm, h => by
    simp only [chkEs, List.isEmpty_iff] at h
    subst h
    exact ok_nil
  | .cons e es, W, X, C, l, m, hm, h => by
    cases l with
    | nil => simp [chkEs] at h
    | cons x l =>
      have ns := chks_ns h
      simp only [chkEs, Bool.and_eq_true] at h
      exact ok_cons hm ((E.ok e C x h.1).e m (Nat.lt_succ_of_lt hm)) (Es.ok es C l m hm h.2) ns.star
theorem Src.ok : ∀ (s : Src) {W : XK} {X : Cx} (C : Cxt w nm T n W X) (t x : Expr) (m : Md), m < 2 → chkSrc nm X.N s X.env.scope t x = true → PI X t x (tI w W m (s.den (gAt T n) m))
  | .ex e, W, X, C, t, x, m, hm, h => by
    unfold chkSrc at h
    rw [Bool.and_eq_true] at h
    exact ok_ex C.K hm ((E.ok e C x h.1).e m (Nat.lt_succ_of_lt hm))
  | .rng1 a, W, X, C, t, x, m, hm, h => by
    unfold chkSrc at h
    split at h
    · simp only [Bool.and_eq_true, decide_eq_true_eq] at h
      obtain ⟨⟨rfl, h2⟩, h3⟩ := h
      refine ok_rng1 (gl_of h2).1 (C.fx.blt _ (by decide)) ?_ ((E.ok a C _ h3).e 0 (by decide))
      intro z hz
      rcases List.mem_cons.mp hz with rfl | hz
      · exact chk_ns h3
      · cases hz
    · cases h
  | .rng2 a b, W, X, C, t, x, m, hm, h => by
    unfold chkSrc at h
    split at h
    · simp only [Bool.and_eq_true, decide_eq_true_eq] at h
      obtain ⟨⟨⟨rfl, h2⟩, h3⟩, h4⟩ := h
      refine ok_rng2 (gl_of h2).1 (C.fx.blt _ (by decide)) ?_ ((E.ok a C _ h3).e 0 (by decide)) ((E.ok b C _ h4).e 0 (by decide))
      intro z hz
      rcases List.mem_cons.mp hz with rfl | hz
      · exact chk_ns h3
      · rcases List.mem_cons.mp hz with rfl | hz
        · exact chk_ns h4
        · cases hz
    · cases h
  | .rng3 a b c, W, X, C, t, x, m, hm, h => by simp [chkSrc] at h
  | .enum e, W, X, C, t, x, m, hm, h => by
    unfold chkSrc at h
    split at h
    · simp only [Bool.and_eq_true, decide_eq_true_eq] at h
      obtain ⟨⟨rfl, h2⟩, h3⟩ := h
      refine ok_enum C.K hm (gl_of h2).1 (C.fx.blt _ (by decide)) ?_ ((E.ok e C _ h3).e m (Nat.lt_succ_of_lt hm))
      intro z hz
      rcases List.mem_cons.mp hz with rfl | hz
      · exact chk_ns h3
      · cases hz
    · cases h
  | .zip a b, W, X, C, t, x, m, hm, h => by
    unfold chkSrc at h
    split at h
    · simp only [Bool.and_eq_true, decide_eq_true_eq] at h
      obtain ⟨⟨⟨rfl, h2⟩, h3⟩, h4⟩ := h
      refine ok_zip C.K hm (gl_of h2).1 (C.fx.blt _ (by decide)) ?_ ((E.ok a C _ h3).e m (Nat.lt_succ_of_lt hm)) ((E.ok b C _ h4).e m (Nat.lt_succ_of_lt hm))
      intro z hz
      rcases List.mem_cons.mp hz with rfl | hz
      · exact chk_ns h3
      · rcases List.mem_cons.mp hz with rfl | hz
        · exact chk_ns h4
        · cases hz
    · cases h
  | .dk i, W, X, C, t, x, m, hm, h => by
    unfold chkSrc at h
    split at h
    · exact ok_dk h
    · cases h
end
end
end Pu

/-! ======== Pu14 ======== -/
namespace Pu
open PySem PySem.Spec PyProof.Rows L2
theorem sw_tup {ts : List Expr} {k : Nat} {pt : Pos} {e : Expr} {env : Env} (hn : ∀ vs k2 p2, e ≠ .Tuple vs k2 p2) : swappedStores [.Tuple ts k pt] e env = pure none := by
  unfold swappedStores
  cases e <;> first | rfl | exact absurd rfl (hn _ _ _)
theorem sw_name {x : Str} {pt : Pos} {e : Expr} {env : Env} : swappedStores [.Name x pt] e env = pure none := by
  unfold swappedStores
  cases e <;> rfl
theorem sw_none {ts : List Expr} {k : Nat} {pt : Pos} {e : Expr} {env : Env} (h : noSwapB env.scope ts e = true) : swappedStores [.Tuple ts k pt] e env = pure none := by
  cases e with
  | Tuple vs k2 p2 =>
    have h' : (!(ts.length == 2 || ts.length == 3) || vs.length != ts.length || (parNames env.scope (lineOf ts) ts).length != ts.length || vs.all (foldedForSure 8)) = true := h
    unfold swappedStores
    dsimp only
    split
    · rfl
    rename_i h1
    split
    · rfl
    split
    · rfl
    rename_i h3
    split
    · rfl
    rename_i h4
    exfalso
    have h3' : ¬ ((parNames env.scope (lineOf ts) ts).length != ts.length || (parNames env.scope (lineOf ts) ts).eraseDups.length != (parNames env.scope (lineOf ts) ts).length) = true := h3
    simp only [Bool.or_eq_true, not_or] at h' h1 h3'
    rcases h' with ((h' | h') | h') | h'
    · exact h1.1.1 h'
    · exact h1.1.2 h'
    · exact h3'.1 h'
    · exact h4 h'
  | _ => exact sw_tup fun _ _ _ e => nomatch e
theorem sw_some {ts vs : List Expr} {k k2 : Nat} {pt p2 : Pos} {env : Env} (hk : env.scope.kind = .function) (hs : ∀ x ∈ vs, ∀ y p, x ≠ .Starred y p) (h : swapB env.scope ts vs = true) : swappedStores [.Tuple ts k pt] (.Tuple vs k2 p2) env = pure (some (parNames env.scope (lineOf ts) ts)) := by
  unfold swapB at h
  simp only [Bool.and_eq_true, Bool.not_eq_true', beq_iff_eq] at h
  obtain ⟨⟨⟨⟨⟨h1, h2⟩, h3⟩, h4⟩, h5⟩, h6⟩ := h
  unfold swappedStores
  dsimp only
  rw [if_neg (by
    rw [h1, h2]
    have : env.blockKind = .function := by unfold Env.blockKind; rw [hk]; rfl
    rw [this]
    simp), if_neg (by
    intro h
    rw [List.any_eq_true] at h
    obtain ⟨x, hx, h⟩ := h
    cases x <;> first | exact hs _ hx _ _ rfl | cases h)]
  have e : ∀ (o : List Str), o = parNames env.scope (lineOf ts) ts → (o.length != ts.length || o.eraseDups.length != o.length) = false := by
    rintro o rfl
    rw [h3, h4]
    simp
  split
  · rename_i h7
    exact Bool.noConfusion ((e _ rfl).symm.trans h7)
  split
  · rename_i h7
    rw [h5] at h7
    cases h7
  split
  · rename_i h7
    rw [h6] at h7
    cases h7
  rfl
theorem sw_plain {v : Expr} {o : Option Expr} {l : Nat} {env : Env} (h : plainV v = true) : swapsWith v o l env = pure false := by
  unfold swapsWith
  cases v <;> first | rfl | cases h
/-! ### what a statement leaves -/
def PostS (w : Wd) (W : XK) (ps : Option Addr) (H0 : Hp) (D : Ends) (r : RS) (H : Hp) : Prop := match r with
  | .next ρ S => ∀ σ' H', Kd w H H' → EnvOk w ps H0 ρ σ' H' → StOk w ps S H' → D.nx σ' H'
  | .ret f d S => ∀ v H', Keep ps H0 H' → StOk w ps S H' → RepM w ps (if f then 2 else 0) H0 H' v d → D.rt v H'
  | .exc c p S => ∀ dx H', Keep ps H0 H' → StOk w ps S H' → ExcOk w ps c p dx H' → W (.ref (w.ca c)) dx H'
  | .stuck => False
def tS (w : Wd) (W : XK) (de : Rho → Sx → RS) : TS := fun D σ H => ∃ ps H0 ρ S, EnvOk w ps H0 ρ σ H ∧ StOk w ps S H ∧ PostS w W ps H0 D (de ρ S) H
section
variable {w : Wd} {W : XK} {ps : Option Addr} {H0 H H' H'' : Hp} {D : Ends}
theorem Kd.trans (a : Kd w H H') (b : Kd w H' H'') : Kd w H H'' := fun c o h l => b c o (a c o h l) l
theorem PostS.mono {r : RS} (k : Kd w H H') (h : PostS w W ps H0 D r H) : PostS w W ps H0 D r H' := by
  cases r with
  | next ρ S => exact fun σ' H2 k2 e s => h σ' H2 (k.trans k2) e s
  | ret f d S => exact h
  | exc c p S => exact h
  | stuck => exact h
theorem PostS.mon {α : Type} {f : α → Sx → RS} : Mon (α := α) ps fun a S H => PostS w W ps H0 D (f a S) H := fun _ _ _ _ k h => h.mono k.kd
theorem toS_st {α : Type} {r : R α} {f : α → Sx → RS} (k0 : Keep ps H0 H) (h : PostS w W ps H0 D (r.toS f) H) : Pst w ps W r H fun a S H => PostS w W ps H0 D (f a S) H := by
  cases r with
  | ok a S => exact h
  | exc c p S => exact fun dx H' k st x => h dx H' (k0.trans k) st x
  | stuck => exact h
theorem next_st {r : RS} {f : Rho → Sx → RS} (h : PostS w W ps H0 D (r.next? f) H) : PostS w W ps H0 { D with nx := fun σ' H' => tS w W f D σ' H' } r H := by
  cases r with
  | next ρ S => exact fun σ' H' k env st => ⟨ps, H0, ρ, S, env, st, PostS.mono k h⟩
  | ret f d S => exact h
  | exc c p S => exact h
  | stuck => exact h
theorem opt_st {S : Sx} {o : Option Rho} (h : PostS w W ps H0 D (RS.opt S o) H) : ∃ ρ, o = some ρ ∧ PostS w W ps H0 D (.next ρ S) H := by
  cases o with
  | none => exact h.elim
  | some ρ => exact ⟨ρ, rfl, h⟩
theorem box_st {ρ : Rho} {i : Nat} {f : List Pu.D → RS} (h : PostS w W ps H0 D (boxAt ρ i f) H) : ∃ ds, ρ[i]? = some (.b ds) ∧ PostS w W ps H0 D (f ds) H := by
  unfold boxAt at h
  split at h
  · exact ⟨_, by assumption, h⟩
  · exact h.elim
end
section
variable {w : Wd} {W : XK} {X : Cx} {pos : Pos} {x : Stmt} {l : List Stmt} {d d' : Rho → Sx → RS}
theorem psImp {t t' : TS} (h : PS X x t) (i : ∀ D σ H, t' D σ H → t D σ H) : PS X x t' := ⟨fun pins s σ H D I q => h.run pins s σ H D I (i D σ H q)⟩
theorem os_nil : PSs X [] (tS w W fun ρ S => .next ρ S) := ⟨fun pins s σ H D I ⟨ps, H0, ρ, S, env, st, q⟩ => pss_nil.run pins s σ H D I (q σ H Kd.refl env st)⟩
theorem os_cons (h1 : PS X x (tS w W d)) (h2 : PSs X l (tS w W d')) : PSs X (x :: l) (tS w W fun ρ S => (d ρ S).next? fun ρ S => d' ρ S) :=
  ⟨fun pins s σ H D I ⟨ps, H0, ρ, S, env, st, q⟩ => (pss_cons h1 h2).run pins s σ H D I ⟨ps, H0, ρ, S, env, st, next_st q⟩⟩
theorem os_pass : PS X (.Pass pos) (tS w W fun ρ S => .next ρ S) := psImp ps_pass fun D σ H ⟨ps, H0, ρ, S, env, st, q⟩ => q σ H Kd.refl env st
theorem os_expr {v : Expr} {de : Rho → Sx → R D} (hp : plainV v = true) (h : PE X v (tE w W 0 de)) : PS X (.Expr v pos) (tS w W fun ρ S => (de ρ S).toS fun _ S => .next ρ S) :=
  psImp (ps_expr h (sw_plain hp)) fun D σ H ⟨ps, H0, ρ, S, env, st, q⟩ => ⟨ps, H0, ρ, S, env, st, Pst.imp (toS_st env.keep q) fun d S1 q1 v H1 k1 st1 r1 => q1 σ H1 k1.kd (env.mono k1) st1⟩
theorem os_ret {v : Expr} {de : Rho → Sx → R D} (h : PE X v (tE w W 0 de)) : PS X (.Return (some v) pos) (tS w W fun ρ S => (de ρ S).toS fun d S => .ret false d S) :=
  psImp (ps_ret h) fun D σ H ⟨ps, H0, ρ, S, env, st, q⟩ => ⟨ps, H0, ρ, S, env, st, Pst.imp (toS_st env.keep q) fun d S1 q1 v H1 k1 st1 r1 => q1 v H1 (env.keep.trans k1) st1 r1⟩
theorem os_retf {v : Expr} {de : Rho → Sx → R D} (h : PE X v (tE w W 2 de)) : PS X (.Return (some v) pos) (tS w W fun ρ S => (de ρ S).toS fun d S => .ret true d S) :=
  psImp (ps_ret h) fun D σ H ⟨ps, H0, ρ, S, env, st, q⟩ => ⟨ps, H0, ρ, S, env, st, Pst.imp (toS_st env.keep q) fun d S1 q1 v H1 k1 st1 r1 => q1 v H1 (env.keep.trans k1) st1 (r1.mono0 env.keep)⟩
theorem os_retb {i : Nat} {y : Str} {p : Pos} (h : slB X.N X.env.scope i y = true) : PS X (.Return (some (.Name y p)) pos) (tS w W fun ρ S => boxAt ρ i fun ds => .ret true (.lst ds) S) := by
  obtain ⟨h1, h2, h3, h4⟩ := sl_of h
  refine psImp (ps_ret (pe_var (pos := p) h1 h2 h3 h4)) fun D σ H ⟨ps, H0, ρ, S, env, st, q⟩ => ?_
  obtain ⟨ds, e, q⟩ := box_st q
  obtain ⟨p, vs, es, hp, r, n, np⟩ := env.slot i _ e
  exact ⟨.ref p, es, q _ H env.keep st ⟨p, vs, ds, rfl, rfl, np, n, hp, r⟩⟩
theorem os_if {c : Expr} {a b : List Stmt} {dc : Rho → Sx → R Bool} (hc : PT X c (tT w W dc)) (ha : PSs X a (tS w W d)) (hb : PSs X b (tS w W d')) : PS X (.If c a b pos) (tS w W fun ρ S => (dc ρ S).toS fun x S => if x then d ρ S else d' ρ S) :=
  psImp (ps_if hc ha hb) fun D σ H ⟨ps, H0, ρ, S, env, st, q⟩ => ⟨ps, H0, ρ, S, env, st, Pst.imp (toS_st env.keep q) fun b S1 q1 H1 k1 st1 => by
    cases b with
    | true => exact ⟨ps, H0, ρ, S1, env.mono k1, st1, PostS.mono k1.kd q1⟩
    | false => exact ⟨ps, H0, ρ, S1, env.mono k1, st1, PostS.mono k1.kd q1⟩⟩
/-- a target's store -/
theorem os_asg {tg v : Expr} {t : Tg} {de : Rho → Sx → R D} (he : PE X v (tE w W 0 de)) (hg : PG X tg (tG w t)) (hs : swapsWithSole [tg] v pos.line X.env = pure false) (hw : swappedStores [tg] v X.env = pure none) (h1 : (assignEach [tg] X.env).map (·.2) = [assign tg X.env]) :
    PS X (.Assign [tg] v pos) (tS w W fun ρ S => (de ρ S).toS fun d S => RS.opt S (t.bind d ρ)) :=
  psImp (ps_asg he hg hs hw h1) fun D σ H ⟨ps, H0, ρ, S, env, st, q⟩ => ⟨ps, H0, ρ, S, env, st, Pst.imp (toS_st env.keep q) fun d S1 q1 v H1 k1 st1 r1 => by
    obtain ⟨ρ', e, q2⟩ := opt_st q1
    exact ⟨ps, H0, ρ, d, ρ', env.mono k1, r1, e, fun σ' env' _ => q2 σ' H1 k1.kd env' st1⟩⟩
theorem EnvOk.setOwn {ρ : Rho} {σ : L2.St} {ps : Option Addr} {H0 H : Hp} {i : Nat} {p : Addr} {s : Sl} (env : EnvOk w ps H0 ρ σ H) (r : SlOk w ps H0 H (some (some (.ref p))) s)
    (own : ∀ (j : Nat) (t : Sl), ρ[j]? = some t → t.own = true → σ[j]? ≠ some (some (V.ref p))) : EnvOk w ps H0 (ρ.set i s) (σ.set i (some (.ref p))) H := by
  refine ⟨env.keep, by rw [List.length_set, List.length_set]; exact env.len, fun j t e => ?_, fun j k q t1 t2 e1 e2 o1 o2 e3 e4 => ?_⟩
  · by_cases h : i = j
    · subst h
      rw [List.getElem?_set] at e
      simp only [if_true] at e
      split at e
      · rename_i hl
        cases e
        rw [List.getElem?_set_self (by rw [env.len]; exact hl)]
        exact r
      · cases e
    · rw [List.getElem?_set_ne h] at e
      rw [List.getElem?_set_ne h]
      exact env.slot j t e
  · have hit : ∀ {a : Nat} {u : Sl}, (ρ.set i s)[a]? = some u → (σ.set i (some (.ref p)))[a]? = some (some (.ref q)) → (a = i ∧ q = p) ∨ (a ≠ i ∧ ρ[a]? = some u ∧ σ[a]? = some (some (.ref q))) := fun {a u} ea es' => by
      by_cases h : i = a
      · subst h
        rw [List.getElem?_set] at es'
        simp only [if_true] at es'
        split at es'
        · cases es'; exact .inl ⟨rfl, rfl⟩
        · cases es'
      · rw [List.getElem?_set_ne h] at ea es'
        exact .inr ⟨fun z => h z.symm, ea, es'⟩
    rcases hit e1 e3 with ⟨rfl, rfl⟩ | ⟨n1, a1, b1⟩
    · rcases hit e2 e4 with ⟨rfl, _⟩ | ⟨n2, a2, b2⟩
      · rfl
      · exact absurd b2 (own _ _ a2 o2)
    · rcases hit e2 e4 with ⟨rfl, rfl⟩ | ⟨n2, a2, b2⟩
      · exact absurd b1 (own _ _ a1 o1)
      · exact env.own j k q _ _ a1 a2 o1 o2 b1 b2
/-- what a slot of one's own points to is tracked -/
theorem EnvOk.ownAt {ρ : Rho} {σ : L2.St} {ps : Option Addr} {H0 H : Hp} {j : Nat} {t : Sl} {p : Addr} (env : EnvOk w ps H0 ρ σ H) (e : ρ[j]? = some t) (o : t.own = true) (es : σ[j]? = some (some (.ref p))) : ∃ u, H p = some u := by
  have z := env.slot j t e
  cases t with
  | b ds => obtain ⟨q, vs, e3, hq, _⟩ := z; rw [es] at e3; cases e3; exact ⟨_, hq⟩
  | dd kvs => obtain ⟨q, vs, e3, hq, _⟩ := z; rw [es] at e3; cases e3; exact ⟨_, hq⟩
  | _ => cases o
/-- a new list, kept to be changed -/
theorem new_box {ρ : Rho} {σ : L2.St} {ps : Option Addr} {H0 H H1 : Hp} {i : Nat} {v : V} {d : D} {ds : List D} (env : EnvOk w ps H0 ρ σ H) (k : Keep ps H H1) (r : RepM w ps 2 H H1 v (.lst ds)) : EnvOk w ps H0 (ρ.set i (.b ds)) (σ.set i (some v)) H1 := by
  obtain ⟨p, vs, ds', e, rfl, np, n, hp, r⟩ := r
  cases e
  refine (env.mono k).setOwn ⟨p, vs, rfl, hp, r, env.keep.back n np, np⟩ fun j t e1 o e2 => ?_
  obtain ⟨u, hu⟩ := env.ownAt e1 o e2
  rw [n] at hu
  cases hu
theorem os_asgb {v : Expr} {i : Nat} {y : Str} {p : Pos} {de : Rho → Sx → R D} (he : PE X v (tE w W 2 de)) (nd : X.N.Nodup) (hi : X.N[i]? = some y) (hl : LocF X y) (hs : swapsWith v (some (.Name y p)) pos.line X.env = pure false) :
    PS X (.Assign [.Name y p] v pos) (tS w W fun ρ S => (de ρ S).toS fun d S => match d with | .lst ds => .next (ρ.set i (.b ds)) S | _ => .stuck) :=
  psImp (ps_set nd hi hl.1 he hs hl.2) fun D σ H ⟨ps, H0, ρ, S, env, st, q⟩ => ⟨ps, H0, ρ, S, env, st, Pst.imp (toS_st env.keep q) fun d S1 q1 v H1 k1 st1 r1 => by
    cases d with
    | lst ds => exact q1 _ H1 k1.kd (new_box (d := .non) env k1 r1) st1
    | _ => exact q1.elim⟩
end
end Pu

/-! ======== Pu15 ======== -/
/-! Statements that write, loops. -/
namespace Pu
open PySem PySem.Spec PyProof.Rows L2
section
variable {w : Wd} {ps : Option Addr} {H0 H : Hp} {ρ : Rho} {σ : L2.St} {S : Sx}
theorem kd_lst {p : Addr} {vs : List V} {o : HO} (hp : H p = some (.lst vs)) : Kd w H (upd H p o) := fun b u e l => by
  rw [upd_ne (fun z => by subst z; rw [hp] at e; cases e; exact l)]
  exact e
/-- the object of a slot of one's own is rewritten, the slot tells of it anew -/
theorem EnvOk.ownUpd {i : Nat} {p : Addr} {u o : HO} {s s' : Sl} (env : EnvOk w ps H0 ρ σ H) (hr : ρ[i]? = some s) (ho : s.own = true) (hs : σ[i]? = some (some (.ref p))) (hp : H p = some u) (kd : Kd w H (upd H p o)) (ni : ∀ C dx fs, u ≠ .ins C dx fs) (n : H0 p = none)
    (r : SlOk w ps H0 (upd H p o) (some (some (.ref p))) s') : EnvOk w ps H0 (ρ.set i s') σ (upd H p o) := by
  refine ⟨fun b u e => ?_, by rw [List.length_set]; exact env.len, fun j t e => ?_, fun j k q d1 d2 e1 e2 o1 o2 e3 e4 => ?_⟩
  · rcases env.keep b u e with z | z
    · exact .inl (by rw [upd_ne (fun y => by subst y; rw [n] at e; cases e)]; exact z)
    · exact .inr z
  · by_cases h : i = j
    · subst h
      rw [List.getElem?_set] at e
      simp only [if_true] at e
      split at e
      · cases e
        rw [hs]
        exact r
      · cases e
    · rw [List.getElem?_set_ne h] at e
      have z := env.slot j t e
      cases t with
      | un => trivial
      | v d => obtain ⟨v, a, b⟩ := z; exact ⟨v, a, b.mono kd⟩
      | b es =>
        obtain ⟨q, us, a, b, c, d, f⟩ := z
        have ne : q ≠ p := fun y => by
          subst y
          exact h (env.own i j q _ _ hr e ho rfl hs a)
        exact ⟨q, us, a, by rw [upd_ne ne]; exact b, c.mono kd, d, f⟩
      | dd es =>
        obtain ⟨q, us, a, b, c, d⟩ := z
        have ne : q ≠ p := fun y => by
          subst y
          exact h (env.own i j q _ _ hr e ho rfl hs a)
        exact ⟨q, us, a, by rw [upd_ne ne]; exact b, c.mono kd, d⟩
      | o c fs =>
        obtain ⟨hc, q, dx, vfs, a, b, c1, c2, d, f⟩ := z
        have ne : q ≠ p := fun y => by subst y; rw [hp] at b; exact ni _ _ _ (Option.some.inj b)
        exact ⟨hc, q, dx, vfs, a, by rw [upd_ne ne]; exact b, c1, c2.mono kd, d, f⟩
  · have old : ∀ {a : Nat} {u : Sl}, u.own = true → (ρ.set i s')[a]? = some u → ∃ u', ρ[a]? = some u' ∧ u'.own = true := fun {a u} o ea => by
      by_cases h : i = a
      · subst h
        exact ⟨s, hr, ho⟩
      · rw [List.getElem?_set_ne h] at ea
        exact ⟨u, ea, o⟩
    obtain ⟨u1, f1, g1⟩ := old o1 e1
    obtain ⟨u2, f2, g2⟩ := old o2 e2
    exact env.own j k q u1 u2 f1 f2 g1 g2 e3 e4
theorem EnvOk.boxUpd {i : Nat} {p : Addr} {vs : List V} {ds : List D} {o : HO} {s' : Sl} (env : EnvOk w ps H0 ρ σ H) (hr : ρ[i]? = some (.b ds)) (hs : σ[i]? = some (some (.ref p))) (hp : H p = some (.lst vs)) (n : H0 p = none)
    (r : SlOk w ps H0 (upd H p o) (some (some (.ref p))) s') : EnvOk w ps H0 (ρ.set i s') σ (upd H p o) :=
  env.ownUpd hr rfl hs hp (kd_lst hp) (fun _ _ _ z => nomatch z) n r
theorem StOk.boxUpd {p : Addr} {vs : List V} {o : HO} (st : StOk w ps S H) (hp : H p = some (.lst vs)) (np : ps ≠ some p) : StOk w ps S (L2.upd H p o) :=
  st.mono (fun q us e1 e2 => by rw [upd_ne (fun z => np (by rw [e1, z]))]; exact e2) (kd_lst hp)
theorem EnvOk.box {i : Nat} {ds : List D} (env : EnvOk w ps H0 ρ σ H) (h : ρ[i]? = some (.b ds)) : ∃ p vs, σ[i]? = some (some (.ref p)) ∧ H p = some (.lst vs) ∧ RepAll w ps H vs ds ∧ H0 p = none ∧ ps ≠ some p := env.slot i _ h
end
section
variable {w : Wd} {W : XK} {X : Cx} {pos p q r : Pos} {d d' : Rho → Sx → RS} {i : Nat} {y : Str} {v : Expr} {de : Rho → Sx → R Pu.D}
theorem sq_list {K : PySem.W.Frag} {H : Hp} {a : Addr} {xs : List V} (h : H a = some (.lst xs)) : L2.tyV K "list" (.ref a) H := .inl ⟨rfl, xs, .inl (.inl h)⟩
theorem ty_mdesc : typeOf (.builtin "list.append") = pure (.type "method_descriptor") := PySem.F.type_list_append
theorem ab_name {x f : Str} {p : Pos} {env : Env} : attributeBase (.Name x p) f env (eval (.Name x p) env) = eval (.Name x p) env := rfl
theorem os_app (hs : slB X.N X.env.scope i y = true) (hl : (q.endLine == r.line) = true) (ns : NS [v]) (he : PE X v (tE w W 0 de)) :
    PS X (.Expr (.Call (.Attribute (.Name y p) "append" q) [v] [] r) pos) (tS w W fun ρ S => boxAt ρ i fun ds => (de ρ S).toS fun d S => if ds.length < sizeLine then .next (ρ.set i (.b (ds ++ [d]))) S else .stuck) := by
  obtain ⟨h1, h2, h3, h4⟩ := sl_of hs
  refine psImp (ps_expr (pe_bm PySem.F.plainAttrs_list PySem.F.slot_list_append PySem.F.type_list_append mt_append (pe_var (pos := p) h1 h2 h3 h4) (pa_cons he pa_nil ns.star) ab_name (by rw [ns.star]; rfl) hl ns.star rfl) (sw_plain rfl)) fun D σ H ⟨ps, H0, ρ, S, env, st, q⟩ => ?_
  obtain ⟨ds, e, q⟩ := box_st q
  obtain ⟨p, vs, es, hp, rr, n, np⟩ := env.box e
  refine ⟨.ref p, es, sq_list hp, ps, H0, ρ, S, env, st, Pst.imp (toS_st env.keep q) fun d S1 q1 x H1 k1 st1 r1 => ?_⟩
  have hp1 : H1 p = some (.lst vs) := k1.to hp np
  split at q1
  · rename_i hz
    refine ⟨p, vs, x, rfl, rfl, hp1, by rw [rr.length]; exact hz, q1 σ _ (k1.kd.trans (kd_lst hp1)) ?_ (st1.boxUpd hp1 np)⟩
    exact (env.mono k1).boxUpd e es hp1 n ⟨p, _, rfl, upd_same, ((rr.mono k1.kd).append (.cons r1 .nil)).mono (kd_lst hp1), n, np⟩
  · exact q1.elim
theorem os_ext (hs : slB X.N X.env.scope i y = true) (hl : (q.endLine == r.line) = true) (ns : NS [v]) (he : PE X v (tE w W 2 de)) :
    PS X (.Expr (.Call (.Attribute (.Name y p) "extend" q) [v] [] r) pos) (tS w W fun ρ S => boxAt ρ i fun ds => (de ρ S).toS fun d S => match d with
    | .lst es => if ds.length + es.length ≤ sizeLine then .next (ρ.set i (.b (ds ++ es))) S else .stuck
    | _ => .stuck) := by
  obtain ⟨h1, h2, h3, h4⟩ := sl_of hs
  refine psImp (ps_expr (pe_bm PySem.F.plainAttrs_list PySem.F.slot_list_extend PySem.F.type_list_extend mt_extend (pe_var (pos := p) h1 h2 h3 h4) (pa_cons he pa_nil ns.star) ab_name (by rw [ns.star]; rfl) hl ns.star rfl) (sw_plain rfl)) fun D σ H ⟨ps, H0, ρ, S, env, st, q⟩ => ?_
  obtain ⟨ds, e, q⟩ := box_st q
  obtain ⟨p, vs, es, hp, rr, n, np⟩ := env.box e
  refine ⟨.ref p, es, sq_list hp, ps, H0, ρ, S, env, st, Pst.imp (toS_st env.keep q) fun d S1 q1 x H1 k1 st1 r1 => ?_⟩
  have hp1 : H1 p = some (.lst vs) := k1.to hp np
  obtain ⟨b, us, es2, rfl, rfl, nb, nn, hb, rb⟩ := r1
  dsimp only at q1
  split at q1
  · rename_i hz
    refine ⟨p, b, vs, us, rfl, rfl, hp1, hb, by rw [rr.length, rb.length]; exact hz, q1 σ _ (k1.kd.trans (kd_lst hp1)) ?_ (st1.boxUpd hp1 np)⟩
    exact (env.mono k1).boxUpd e es hp1 n ⟨p, _, rfl, upd_same, ((rr.mono k1.kd).append rb).mono (kd_lst hp1), n, np⟩
  · exact q1.elim
theorem last_ix {α : Type} (l : List α) : l[l.length - 1]? = l.getLast? := by rw [List.getLast?_eq_getElem?]
theorem RepAll.dropLast {ps : Option Addr} {H : Hp} {vs : List V} {ds : List Pu.D} (h : RepAll w ps H vs ds) : RepAll w ps H vs.dropLast ds.dropLast := by
  rw [List.dropLast_eq_take, List.dropLast_eq_take, h.length]
  exact h.take _
theorem os_pop {tg : Expr} {t : Tg} (hs : slB X.N X.env.scope i y = true) (hl : (q.endLine == r.line) = true) (hg : PG X tg (tG w t)) (hw : swappedStores [tg] (.Call (.Attribute (.Name y p) "pop" q) [] [] r) X.env = pure none) (ha : (assignEach [tg] X.env).map (·.2) = [assign tg X.env]) :
    PS X (.Assign [tg] (.Call (.Attribute (.Name y p) "pop" q) [] [] r) pos) (tS w W fun ρ S => boxAt ρ i fun ds => match ds.getLast? with
    | some d => RS.opt S (t.bind d (ρ.set i (.b ds.dropLast)))
    | none => .stuck) := by
  obtain ⟨h1, h2, h3, h4⟩ := sl_of hs
  refine psImp (ps_asg (pe_bm0 PySem.F.plainAttrs_list PySem.F.slot_list_pop PySem.F.type_list_pop mt_pop (pe_var (pos := p) h1 h2 h3 h4) ab_name hl) hg rfl hw ha) fun D σ H ⟨ps, H0, ρ, S, env, st, q⟩ => ?_
  obtain ⟨ds, e, q⟩ := box_st q
  obtain ⟨p, vs, es, hp, rr, n, np⟩ := env.box e
  split at q
  · rename_i d hd
    obtain ⟨ρ', eb, q2⟩ := opt_st q
    rw [← last_ix] at hd
    obtain ⟨u, hu, ru⟩ := rr.get hd
    rw [← rr.length] at hu
    have kd : Kd w H (upd H p (.lst vs.dropLast)) := kd_lst hp
    refine ⟨.ref p, es, sq_list hp, p, vs, u, rfl, rfl, hp, hu, ps, H0, ρ.set i (.b ds.dropLast), d, ρ', ?_, ru.mono kd, eb, fun σ' env' _ => q2 σ' _ kd env' (st.boxUpd hp np)⟩
    exact env.boxUpd e es hp n ⟨p, _, rfl, upd_same, rr.dropLast.mono kd, n, np⟩
  · exact q.elim
theorem sw_sole {tg v : Expr} {l : Nat} {env : Env} (h : plainV v = true) : swapsWithSole [tg] v l env = pure false := by
  unfold swapsWithSole
  exact sw_plain h
theorem sub_arm {o z : Expr} {ps : Pos} {env : Env} (h : (match z with | .Slice .. => false | _ => true) = true) : ∀ v, assign (.Subscript o z ps) env v = (do
      let ov ← holding [v] (eval o env)
      let iv ← holding [v, ov] (eval z env)
      standAt ps
      holding [v, ov, iv] (setItem ov iv v)
      release [v, ov, iv] []) := by
  intro v
  cases z <;> first | rfl | cases h
theorem ixN_set {ds : List Pu.D} {vs : List V} {j : Nat} {z : Int} (h : vs.length = ds.length) (e : L2.ixN ds.length z = some j) : L2.ixN vs.length z = some j := by rw [h]; exact e
theorem os_setix {z : Expr} {dk : Rho → Sx → R Pu.D} (hs : slB X.N X.env.scope i y = true) (hz : (match z with | .Slice .. => false | _ => true) = true) (hp : plainV v = true) (hk : PE X z (tE w W 0 dk)) (he : PE X v (tE w W 0 de)) :
    PS X (.Assign [.Subscript (.Name y p) z r] v pos) (tS w W fun ρ S => (de ρ S).toS fun d S => boxAt ρ i fun ds => (dk ρ S).toS fun y S => match y with
    | .int z => (match L2.ixN ds.length z with
      | some j => .next (ρ.set i (.b (ds.set j d))) S
      | none => .stuck)
    | _ => .stuck) := by
  obtain ⟨h1, h2, h3, h4⟩ := sl_of hs
  refine psImp (ps_asg he (pg_sub (pe_var (pos := p) h1 h2 h3 h4) hk set_list (sub_arm hz)) (sw_sole hp) (by unfold swappedStores; cases v <;> rfl) rfl) fun D σ H ⟨ps, H0, ρ, S, env, st, q⟩ => ⟨ps, H0, ρ, S, env, st, Pst.imp (toS_st env.keep q) fun d S1 q1 x H1 k1 st1 r1 => ?_⟩
  obtain ⟨ds, e, q1⟩ := box_st q1
  obtain ⟨p, vs, es, hp, rr, n, np⟩ := (env.mono k1).box e
  refine ⟨.ref p, es, ps, H0, ρ, S1, env.mono k1, st1, Pst.imp (toS_st (env.mono k1).keep (PostS.mono k1.kd q1)) fun d2 S2 q2 x2 H2 k2 st2 r2 => ?_⟩
  cases d2 with
  | int z =>
    dsimp only at q2
    split at q2
    · rename_i j hj
      cases r2
      have hp2 : H2 p = some (.lst vs) := k2.to hp np
      refine ⟨p, vs, z, j, rfl, rfl, hp2, ixN_set rr.length hj, q2 σ _ (k2.kd.trans (kd_lst hp2)) ?_ (st2.boxUpd hp2 np)⟩
      exact ((env.mono k1).mono k2).boxUpd e es hp2 n ⟨p, _, rfl, upd_same, ((rr.mono k2.kd).set j (Rep.mono k2.kd r1)).mono (kd_lst hp2), n, np⟩
    · exact q2.elim
  | _ => exact q2.elim
theorem os_setst {z : Expr} {dk : Rho → Sx → R Pu.D} (hs : slB X.N X.env.scope i y = true) (hz : (match z with | .Slice .. => false | _ => true) = true) (hp : plainV v = true) (hk : PE X z (tE w W 0 dk)) (he : PE X v (tE w W 0 de)) :
    PS X (.Assign [.Subscript (.Name y p) z r] v pos) (tS w W fun ρ S => (de ρ S).toS fun d S => match ρ[i]? with
    | some (.v .st) => (dk ρ S).toS fun y S => (match y, S with
      | .int z, some ds => (match L2.ixN ds.length z with
        | some j => .next ρ (some (ds.set j d))
        | none => .stuck)
      | _, _ => .stuck)
    | _ => .stuck) := by
  obtain ⟨h1, h2, h3, h4⟩ := sl_of hs
  refine psImp (ps_asg he (pg_sub (pe_var (pos := p) h1 h2 h3 h4) hk set_list (sub_arm hz)) (sw_sole hp) (by unfold swappedStores; cases v <;> rfl) rfl) fun D σ H ⟨ps, H0, ρ, S, env, st, q⟩ => ⟨ps, H0, ρ, S, env, st, Pst.imp (toS_st env.keep q) fun d S1 q1 x H1 k1 st1 r1 => ?_⟩
  split at q1
  · rename_i hst
    obtain ⟨u, es, ru⟩ := env.slot i _ hst
    cases ru with
    | st hps =>
      rename_i p
      subst hps
      refine ⟨.ref p, es, some p, H0, ρ, S1, env.mono k1, st1, Pst.imp (toS_st (env.mono k1).keep (PostS.mono k1.kd q1)) fun d2 S2 q2 x2 H2 k2 st2 r2 => ?_⟩
      cases d2 with
      | int z =>
        cases S2 with
        | none => exact q2.elim
        | some ds =>
          dsimp only at q2
          split at q2
          · rename_i j hj
            obtain ⟨vs, hp2, rr⟩ := st2
            cases r2
            have kp : Keep (some p) H2 (upd H2 p (.lst (vs.set j x))) := fun b o e => by
              by_cases hb : b = p
              · subst hb
                rw [hp2] at e
                cases e
                exact .inr ⟨rfl, _, rfl⟩
              · exact .inl (by rw [upd_ne hb]; exact e)
            refine ⟨p, vs, z, j, rfl, rfl, hp2, ixN_set rr.length hj, q2 σ _ (k2.kd.trans kp.kd) (((env.mono k1).mono k2).mono kp) ⟨_, upd_same, ?_⟩⟩
            exact (rr.set j (Rep.mono k2.kd r1)).mono kp.kd
          · exact q2.elim
      | _ => exact q2.elim
  · exact q1.elim
theorem putF_new {f : Str} {x : V} : ∀ {fs : List (Str × V)}, f ∉ fs.map (·.1) → putF f x fs = fs ++ [(f, x)]
  | [], _ => rfl
  | (g, u) :: r, h => by
    have h1 : ¬ g = f := fun e => h (by rw [e]; exact List.mem_cons_self)
    show (if g = f then _ else _) = _
    rw [if_neg h1, putF_new (fun m => h (List.mem_cons_of_mem _ m))]
    rfl
theorem os_setf {f : Str} {g : G} (hK : X.K = w.K) (hfl : g.flds = w.fl) (hcf : ∀ c < w.nc, ClsF w c) (hs : slB X.N X.env.scope i y = true) (hp : plainV v = true) (he : PE X v (tE w W 0 de)) :
    PS X (.Assign [.Attribute (.Name y p) f r] v pos) (tS w W fun ρ S => (de ρ S).toS fun d S => match ρ[i]? with
    | some (.o c fs) => if decide (f ∈ g.flds c) && !decide (f ∈ fs.map (·.1)) && decide (fs.length < 100) && decide (i = 0) && (ρ.drop 1).all notO then .next (ρ.set i (.o c (fs ++ [(f, d)]))) S else .stuck
    | _ => .stuck) := by
  obtain ⟨h1, h2, h3, h4⟩ := sl_of hs
  refine psImp (ps_fld (pe_var (pos := p) h1 h2 h3 h4) he (sw_plain hp)) fun D σ H ⟨ps, H0, ρ, S, env, st, q⟩ => ⟨ps, H0, ρ, S, env, st, Pst.imp (toS_st env.keep q) fun d S1 q1 x H1 k1 st1 r1 => ?_⟩
  split at q1
  · rename_i c fs hsl
    split at q1
    · rename_i hc
      simp only [Bool.and_eq_true, Bool.not_eq_true', decide_eq_true_eq, decide_eq_false_iff_not] at hc
      obtain ⟨⟨⟨⟨hc1, hc2⟩, hc3⟩, hc4⟩, hc5⟩ := hc
      rw [hfl] at hc1
      obtain ⟨hnc, a, dx, vfs, es, ha, m1, m2, n, z⟩ := (env.mono k1).slot i _ hsl
      have lv : vfs.length = fs.length := by
        have := congrArg List.length m1
        rwa [List.length_map, List.length_map] at this
      have nm : f ∉ vfs.map (·.1) := by rw [m1]; exact hc2
      have kd : Kd w H1 (upd H1 a (.ins (w.ca c) dx (putF f x vfs))) := fun b o e l => by
        rw [upd_ne (fun y => ?_)]
        · exact e
        · subst y
          rw [ha] at e
          cases e
          obtain ⟨c', e1, e2⟩ := l
          rw [← w.cinj _ _ e1] at e2
          rw [e2] at nm
          exact nm hc1
      refine ⟨.ref a, es, a, w.ca c, dx, vfs, rfl, ha, hK ▸ (hcf c hnc).cl, hK ▸ (hcf c hnc).na f hc1, by have := z.1; omega, q1 σ _ (k1.kd.trans kd) ?_ ?_⟩
      · have env1 := env.mono k1
        refine ⟨fun b u e => ?_, by rw [List.length_set]; exact env1.len, fun j t e => ?_, fun j k q d1 d2 e1 e2 o1 o2 e3 e4 => ?_⟩
        · rcases env1.keep b u e with z | z
          · exact .inl (by rw [upd_ne (fun y => by subst y; rw [n] at e; cases e)]; exact z)
          · exact .inr z
        · by_cases h : i = j
          · subst h
            rw [List.getElem?_set] at e
            simp only [if_true] at e
            split at e
            · cases e
              refine ⟨hnc, a, dx, putF f x vfs, es, upd_same, ?_, ?_, n, ?_⟩
              · rw [putF_new nm, List.map_append, List.map_append, m1]; rfl
              · rw [show (putF f x vfs).map (·.2) = vfs.map (·.2) ++ [x] by rw [putF_new nm, List.map_append]; rfl, List.map_append]
                exact RepAll.mono (vs := vfs.map (·.2) ++ [x]) (ds := fs.map (·.2) ++ [d]) kd (m2.append (.cons r1 .nil))
              · refine ⟨?_, z.2⟩
                rw [putF_new nm, List.length_append, List.length_singleton]; omega
            · cases e
          · rw [List.getElem?_set_ne h] at e
            have z := env1.slot j t e
            cases t with
            | un => trivial
            | v d => obtain ⟨v, a1, b1⟩ := z; exact ⟨v, a1, b1.mono kd⟩
            | b es =>
              obtain ⟨q, us, a1, b1, c1, d1, f1⟩ := z
              have ne : q ≠ a := fun y => by subst y; rw [ha] at b1; cases b1
              exact ⟨q, us, a1, by rw [upd_ne ne]; exact b1, c1.mono kd, d1, f1⟩
            | dd es =>
              obtain ⟨q, us, a1, b1, c1, d1⟩ := z
              have ne : q ≠ a := fun y => by subst y; rw [ha] at b1; cases b1
              exact ⟨q, us, a1, by rw [upd_ne ne]; exact b1, c1.mono kd, d1⟩
            | o c2 fs2 =>
              exfalso
              rw [List.all_eq_true] at hc5
              obtain ⟨j', rfl⟩ : ∃ j', j = j' + 1 := ⟨j - 1, by omega⟩
              have hm : (ρ.drop 1)[j']? = some (.o c2 fs2) := by rw [List.getElem?_drop, Nat.add_comm]; exact e
              exact Bool.noConfusion (hc5 _ (List.mem_of_getElem? hm))
        · have old : ∀ {a : Nat} {u : Sl}, u.own = true → (ρ.set i (.o c (fs ++ [(f, d)])))[a]? = some u → ρ[a]? = some u := fun {a u} o ea => by
            by_cases h : i = a
            · subst h
              rw [List.getElem?_set] at ea
              simp only [if_true] at ea
              split at ea
              · cases ea; cases o
              · cases ea
            · rw [List.getElem?_set_ne h] at ea
              exact ea
          exact env1.own j k q d1 d2 (old o1 e1) (old o2 e2) o1 o2 e3 e4
      · exact st1.mono (fun p vs e1 e2 => by rw [upd_ne (fun z => by subst z; rw [ha] at e2; cases e2)]; exact e2) kd
    · exact q1.elim
  · exact q1.elim
end
end Pu

/-! ======== Pu16 ======== -/
/-! Several stores at once, loops. -/
namespace Pu
open PySem PySem.Spec PyProof.Rows L2
/-- places and names -/
inductive Locs (X : Cx) : List Nat → List Str → Prop
  | nil : Locs X [] []
  | cons {i : Nat} {x : Str} {is : List Nat} {xs : List Str} : X.N[i]? = some x → X.env.scope.names.lookup x = some .local → Locs X is xs → Locs X (i :: is) (x :: xs)
theorem Locs.snoc {X : Cx} {i : Nat} {x : Str} (h1 : X.N[i]? = some x) (h2 : X.env.scope.names.lookup x = some .local) : ∀ {is : List Nat} {xs : List Str}, Locs X is xs → Locs X (is ++ [i]) (xs ++ [x])
  | _, _, .nil => .cons h1 h2 .nil
  | _, _, .cons a b c => .cons a b (c.snoc h1 h2)
theorem Locs.reverse {X : Cx} : ∀ {is : List Nat} {xs : List Str}, Locs X is xs → Locs X is.reverse xs.reverse
  | _, _, .nil => .nil
  | _, _, .cons a b c => by
    rw [List.reverse_cons, List.reverse_cons]
    exact c.reverse.snoc a b
theorem locs_of {X : Cx} {sc : Scope} (hsc : X.env.scope = sc) {line : Nat} : ∀ {is : List Nat} {ts : List Expr}, nmsB X.N sc is ts = true → (parNames sc line ts).length = ts.length → Locs X is (parNames sc line ts)
  | [], [], _, _ => .nil
  | [], _ :: _, h, _ => by cases h
  | _ :: _, [], h, _ => by cases h
  | i :: is, e :: es, h, hl => by
    have h' : (nmB X.N sc i e && nmsB X.N sc is es) = true := h
    rw [Bool.and_eq_true] at h'
    have le : ∀ l : List Expr, (parNames sc line l).length ≤ l.length := fun l => List.length_filterMap_le _ _
    have f : parNames sc line (e :: es) = (match (parName sc line e) with | some b => b :: parNames sc line es | none => parNames sc line es) := by
      unfold parNames
      rw [List.filterMap_cons]
      cases parName sc line e <;> rfl
    cases e with
    | Name y p =>
      unfold parName at f
      dsimp only at f
      by_cases hc : (sc.names.lookup y == some .local && p.line == line) = true
      · rw [if_pos hc] at f
        dsimp only at f
        rw [f] at hl ⊢
        rw [Bool.and_eq_true, beq_iff_eq] at hc
        have h1 : (eqS X.N[i]? y && locB sc y) = true := h'.1
        refine .cons (loc_of h1).1 (by rw [hsc]; exact hc.1) (locs_of hsc h'.2 (by simpa using hl))
      · rw [if_neg hc] at f
        dsimp only at f
        rw [f] at hl
        have := le es
        rw [List.length_cons] at hl
        omega
    | _ => exact Bool.noConfusion h'.1
section
variable {w : Wd} {W : XK} {X : Cx} {pos : Pos}
theorem store_all {M : Model} {A : Around} {E : Value → Shared → Prop} {Q : Unit → Shared → Prop} (nd : X.N.Nodup) {ps : Option Addr} {H0 H : Hp} {pins : List (Addr × Obj)} {is : List Nat} {xs : List Str} (L : Locs X is xs) : ∀ {vs : List V} {us : List Value} {ds : List D} {ρ ρ' : Rho} {σ : L2.St} {s : Shared},
    Vals vs us → RepAll w ps H vs ds → bindAll is ds ρ = some ρ' → EnvOk w ps H0 ρ σ H → L2.Inv X pins σ H s → (∀ σ' s', L2.Inv X pins σ' H s' → EnvOk w ps H0 ρ' σ' H → Q () s') →
    wpAny M A (assignInOrder (xs.map fun n => bindName X.env n) us) Q E s := by
  induction L with
  | nil =>
    intro vs us ds ρ ρ' σ s rv rd e env I h
    cases ds with
    | nil =>
      cases e
      cases rd
      cases rv
      exact assignInOrder_nil (h σ s I env)
    | cons d ds => cases e
  | cons h1 h2 h3 ih =>
    intro vs us ds ρ ρ' σ s rv rd e env I h
    cases ds with
    | nil => cases e
    | cons d ds =>
      cases rd with
      | cons r1 r2 =>
        cases rv with
        | cons q1 q2 =>
          refine assignInOrder_cons (wpAny_bindName (store_ok I nd h1 (.inl h2) q1 (fun s2 I2 => ?_) (.inr h2)))
          exact ih q2 r2 e (env.set ⟨_, rfl, r1⟩ rfl) I2 h
theorem Vals.rev {vs : List V} {us : List Value} (h : Vals vs us) : Vals vs.reverse us.reverse := h.reverse
theorem RepAll.reverse {ps : Option Addr} {H : Hp} : ∀ {vs : List V} {ds : List D}, RepAll w ps H vs ds → RepAll w ps H vs.reverse ds.reverse
  | _, _, .nil => .nil
  | _, _, .cons a b => by
    rw [List.reverse_cons, List.reverse_cons]
    exact b.reverse.append (.cons a .nil)
theorem RepsM.length {ps : Option Addr} {m : Md} {H1 H : Hp} : ∀ {vs : List V} {ds : List D}, RepsM w ps m H1 H vs ds → vs.length = ds.length
  | _, _, .nil => rfl
  | _, _, .cons _ t => by rw [List.length_cons, List.length_cons, t.length]
theorem os_par {ts vs : List Expr} {is : List Nat} {kt k2 : Nat} {pt p2 : Pos} {de : Rho → Sx → R (List D)} (hc : X.calm = true) (nd : X.N.Nodup) (hk : X.env.scope.kind = .function) (hn : nmsB X.N X.env.scope is ts = true) (hs : swapB X.env.scope ts vs = true) (ns : NS vs)
    (ha : PA X vs (tA w W 0 de)) (hlen : ∀ ρ S ds S', de ρ S = .ok ds S' → ds.length = vs.length) :
    PS X (.Assign [.Tuple ts kt pt] (.Tuple vs k2 p2) pos) (tS w W fun ρ S => (de ρ S).toS fun ds S => RS.opt S (bindAll is.reverse ds.reverse ρ)) := by
  have hsw := sw_some (k := kt) (pt := pt) (k2 := k2) (p2 := p2) hk ns hs
  unfold swapB at hs
  simp only [Bool.and_eq_true, Bool.not_eq_true', beq_iff_eq, Bool.or_eq_true] at hs
  obtain ⟨⟨⟨⟨⟨l1, l2⟩, l3⟩, l4⟩, l5⟩, l6⟩ := hs
  have L := locs_of rfl hn l3
  refine ⟨fun pins s σ H D I ⟨ps, H0, ρ, S, env, st, q⟩ => ?_⟩
  rw [exec_Assign_arm]
  refine wpAny_bind (wpAny_standAt ?_)
  rw [sw_sole (v := .Tuple vs k2 p2) rfl]
  refine wpAny_bind (wpAny_pure ?_)
  rw [if_neg (by decide)]
  have hq : Pst w ps W (de ρ S) H (RetA w ps 0 fun us H1 => ∃ (ds : List Pu.D) (ρ' : Rho), ds.length = vs.length ∧ RepAll w ps H1 us ds ∧ bindAll is.reverse ds.reverse ρ = some ρ' ∧ EnvOk w ps H0 ρ σ H1 ∧ ∀ σ', EnvOk w ps H0 ρ' σ' H1 → D.nx σ' H1) := by
    have q' := toS_st env.keep q
    cases hd : de ρ S with
    | ok ds S1 =>
      rw [hd] at q'
      obtain ⟨ρ', e, q2⟩ := opt_st q'
      exact fun us H1 k1 st1 r1 => ⟨ds, ρ', hlen _ _ _ _ hd, r1.all, e, env.mono k1, fun σ' env' => q2 σ' H1 k1.kd env' st1⟩
    | exc c p S1 => rw [hd] at q'; exact q'
    | stuck => rw [hd] at q'; exact q'
  refine wpAny_bind (Tuple_ (thn (ha.run _ pins s σ H _ I ⟨ps, H0, ρ, S, env, st, hq⟩) fun us s1 ⟨xs, H1, I1, r1, ds, ρ', hl, rd, e, env1, fin⟩ => ?_))
  have lu : us.length = vs.length := by rw [← r1.length, rd.length, hl]
  have hz : us.length ≤ sizeLine := by rw [lu, l2]; rw [sizeLine_eq]; omega
  have lt : (parNames X.env.scope (lineOf ts) ts).length = us.length := by rw [l3, lu, l2]
  cases us with
  | nil => exfalso; simp only [List.length_nil] at lu; omega
  | cons u us =>
    refine wpAny_newObj_type ?_ (by show (u :: us).toArray.size ≤ sizeLine; rw [List.size_toArray]; exact hz)
    have I2 : Inv X pins σ H1 { s1 with heap := s1.heap.push { cls := .type "tuple", data := .seq (u :: us).toArray } } := I1.kept (t' := s1.toks) fun b o e => Heap.get?_push_of_some _ e
    rw [hsw]
    refine wpAny_bind (wpAny_pure ?_)
    show wpAny (model X.prog X.w) X.A (do rule "assign.swapped-stores"; let items ← unpackItems (.ref s1.heap.objs.size) (parNames X.env.scope (lineOf ts) ts).length none; assignInOrder ((parNames X.env.scope (lineOf ts) ts).reverse.map fun n => bindName X.env n) items.reverse; pure Flow.next) _ _ _
    rw [lt]
    refine wpAny_bind (wpAny_rule (wpAny_bind ?_))
    have e1 : (u :: us).length = (u :: us).toArray.size := by rw [List.size_toArray]
    rw [e1]
    refine unpackItems_tuple (I.ok.hd hc) (IsTup.new s1.heap _) fun h' hx' => ?_
    have I3 := I2.kept (h' := h') (t' := s1.toks) fun b o e => hx' b o (Nat.ne_of_lt (Heap.lt_size e)) e
    refine wpAny_bind (store_all nd L.reverse (Vals.rev (show Vals xs ((u :: us).toArray.toList) from r1)) rd.reverse e env1 I3 fun σ' s' I' env' => wpAny_pure ⟨σ', H1, I', fin σ' env'⟩)
theorem whileGo_next {c : Rho → Sx → R Bool} {f : Rho → Sx → RS} {g : Rho → Sx → RS} {n : Nat} {ρ : Rho} {S : Sx} : (whileGo c f (n + 1) ρ S).next? g = (c ρ S).toS fun b S => if b then (f ρ S).next? fun ρ S => (whileGo c f n ρ S).next? g else g ρ S := by
  show (R.toS _ _).next? _ = _
  cases c ρ S with
  | ok b S =>
    cases b with
    | true =>
      show ((f ρ S).next? _).next? _ = (f ρ S).next? _
      cases f ρ S <;> rfl
    | false => rfl
  | exc c p S => rfl
  | stuck => rfl
theorem os_while {c : Expr} {body : List Stmt} {kill : List Nat} {wf : Nat} {dc : Rho → Sx → R Bool} {db : Rho → Sx → RS} (hp : PassesOwn (model X.prog X.w) X.A X.env X.xe) (hc : PT X c (tT w W dc)) (hb : PSs X body (tS w W db)) :
    PS X (.While c body [] pos) (tS w W fun ρ S => (whileGo dc db wf ρ S).next? fun ρ S => .next (wipe ρ kill) S) :=
  psImp (ps_while hp hc hb) fun D σ H ⟨ps, H0, ρ, S, env, st, q⟩ => by
    refine ⟨fun m σ H => ∃ ρ S, EnvOk w ps H0 ρ σ H ∧ StOk w ps S H ∧ PostS w W ps H0 D ((whileGo dc db m ρ S).next? fun ρ S => .next (wipe ρ kill) S) H, ⟨wf, ρ, S, env, st, q⟩, ?_⟩
    rintro m σ1 H1 ⟨ρ1, S1, env1, st1, q1⟩
    cases m with
    | zero => exact q1.elim
    | succ m =>
      rw [whileGo_next] at q1
      refine ⟨ps, H0, ρ1, S1, env1, st1, Pst.imp (toS_st env1.keep q1) fun b S2 q2 H2 k2 st2 => ?_⟩
      cases b with
      | true =>
        rw [if_pos rfl] at q2 ⊢
        refine ⟨fun σ' H' => ∃ ρ S, EnvOk w ps H0 ρ σ' H' ∧ StOk w ps S H' ∧ PostS w W ps H0 D ((whileGo dc db m ρ S).next? fun ρ S => .next (wipe ρ kill) S) H', fun σ' H' h => ⟨m, Nat.lt_succ_self _, h⟩, ps, H0, ρ1, S2, env1.mono k2, st2, ?_⟩
        have q3 : PostS w W ps H0 D ((db ρ1 S2).next? fun ρ S => (whileGo dc db m ρ S).next? fun ρ S => .next (wipe ρ kill) S) H2 := PostS.mono k2.kd q2
        cases h : db ρ1 S2 with
        | next ρ3 S3 =>
          rw [h] at q3
          exact fun σ' H' k env' st' => ⟨ρ3, S3, env', st', PostS.mono k q3⟩
        | ret f d S3 => rw [h] at q3; exact q3
        | exc c p S3 => rw [h] at q3; exact q3
        | stuck => rw [h] at q3; exact q3
      | false =>
        rw [if_neg Bool.false_ne_true] at q2 ⊢
        exact q2 σ1 H2 k2.kd ((env1.mono k2).wipe' kill) st2
def forF (t : Tg) (db : Rho → Sx → RS) : D → Rho → Sx → RS := fun d ρ S => match t.bind d ρ with
  | some ρ' => db ρ' S
  | none => .stuck
theorem forGo_next {f : D → Rho → Sx → RS} {g : Rho → Sx → RS} {d : D} {ds : List D} {ρ : Rho} {S : Sx} : (forGo f (d :: ds) ρ S).next? g = (f d ρ S).next? fun ρ S => (forGo f ds ρ S).next? g := by
  show ((f d ρ S).next? _).next? _ = _
  cases f d ρ S <;> rfl
theorem os_for {tg it : Expr} {t : Tg} {body : List Stmt} {kill : List Nat} {di : Rho → Sx → R (List D)} {db : Rho → Sx → RS} (hp : PassesOwn (model X.prog X.w) X.A X.env X.xe) (hc : X.calm = true) (hi : PI X tg it (tI w W 0 di)) (hg : PG X tg (tG w t)) (hb : PSs X body (tS w W db))
    (hf : ∀ x, foldedSetIterable it X.env x = pure x) :
    PS X (.For tg it body [] pos) (tS w W fun ρ S => (di ρ S).toS fun ds S => (forGo (forF t db) ds ρ S).next? fun ρ S => .next (wipe ρ kill) S) :=
  psImp (ps_for hp hc hi hg hb hf) fun D σ H ⟨ps, H0, ρ, S, env, st, q⟩ => ⟨ps, H0, ρ, S, env, st, Pst.imp (toS_st env.keep q) fun ds S1 q1 J H1 k1 st1 hlen gv => by
    refine ⟨fun i m σ2 H2 => m = ds.length - i ∧ i ≤ ds.length ∧ Kd w H1 H2 ∧ ∃ ρ S, EnvOk w ps H0 ρ σ2 H2 ∧ StOk w ps S H2 ∧ PostS w W ps H0 D ((forGo (forF t db) (ds.drop i) ρ S).next? fun ρ S => .next (wipe ρ kill) S) H2, ⟨ds.length, by omega, by omega, Kd.refl, ρ, S1, env.mono k1, st1, PostS.mono k1.kd q1⟩, ?_⟩
    rintro i m σ2 H2 ⟨rfl, hle, kd, ρ2, S2, env2, st2, q2⟩
    have gv2 := gv H2 kd i
    by_cases hlt : i < ds.length
    · obtain ⟨go, yl⟩ := gv2.1 hlt
      have hd : ds.drop i = ds[i] :: ds.drop (i + 1) := List.drop_eq_getElem_cons hlt
      rw [hd, forGo_next] at q2
      refine .inr ⟨go, fun σ3 H3 => Kd w H1 H3 ∧ ∃ ρ S, EnvOk w ps H0 ρ σ3 H3 ∧ StOk w ps S H3 ∧ PostS w W ps H0 D ((forGo (forF t db) (ds.drop (i + 1)) ρ S).next? fun ρ S => .next (wipe ρ kill) S) H3, fun σ3 H3 ⟨k3, h3⟩ => ⟨ds.length - (i + 1), by omega, rfl, hlt, k3, h3⟩, fun x H' y => ?_⟩
      obtain ⟨hH, d, hd2, rx⟩ := yl x H' y
      have e0 : d = ds[i] := by
        rw [List.getElem?_eq_getElem hlt] at hd2
        exact (Option.some.inj hd2).symm
      subst e0
      have k2 : Keep ps H2 H' := by
        rcases hH with rfl | ⟨T, o, hT, rfl⟩
        · exact Keep.refl
        · exact Keep.upd hT
      have st' : StOk w ps S2 H' := by
        rcases hH with rfl | ⟨T, o, hT, rfl⟩
        · exact st2
        · exact st2.upd hT
      unfold forF at q2
      cases hb2 : t.bind ds[i] ρ2 with
      | none => rw [hb2] at q2; exact q2.elim
      | some ρ' =>
        rw [hb2] at q2
        refine ⟨ps, H0, ρ2, ds[i], ρ', env2.mono k2, rx, hb2, fun σ' env' _ => ⟨ps, H0, ρ', S2, env', st', ?_⟩⟩
        have q3 := PostS.mono k2.kd q2
        dsimp only at q3
        cases h : db ρ' S2 with
        | next ρ3 S3 =>
          rw [h] at q3
          exact fun σ4 H4 k env4 st4 => ⟨kd.trans (k2.kd.trans k), ρ3, S3, env4, st4, PostS.mono k q3⟩
        | ret f d S3 => rw [h] at q3; exact q3
        | exc c p S3 => rw [h] at q3; exact q3
        | stuck => rw [h] at q3; exact q3
    · have e : i = ds.length := by omega
      subst e
      rw [List.drop_length] at q2
      exact .inl ⟨gv2.2 rfl, q2 σ2 H2 Kd.refl (env2.wipe' kill) st2⟩⟩
/-- a list of one's own is locked for good: from now on a datum -/
theorem oss_frz {l : List Stmt} {i : Nat} {d : Rho → Sx → RS} (h : PSs X l (tS w W d)) : PSs X l (tS w W fun ρ S => (boxAt ρ i fun ds => .next (ρ.set i (.v (.lst ds))) S).next? fun ρ S => d ρ S) :=
  ⟨fun pins s σ H D I ⟨ps, H0, ρ, S, env, st, q⟩ => by
    have q' : PostS w W ps H0 { D with nx := fun σ' H' => tS w W d D σ' H' } (boxAt ρ i fun ds => .next (ρ.set i (.v (.lst ds))) S) H := next_st q
    obtain ⟨ds, e, q'⟩ := box_st q'
    obtain ⟨p, vs, es, hp, r, n, np⟩ := env.box e
    obtain ⟨od, I2⟩ := I.lock hp trivial
    refine h.run pins s σ _ D I2 (q' σ _ (kd_lst hp) ?_ (st.boxUpd hp np))
    exact env.boxUpd e es hp n ⟨.ref p, rfl, .lst upd_same (r.mono (kd_lst hp))⟩⟩
/-! dicts -/
theorem os_asgd {i : Nat} {y : Str} {p q : Pos} (nd : X.N.Nodup) (hi : X.N[i]? = some y) (hl : LocF X y) : PS X (.Assign [.Name y p] (.Dict [] [] q) pos) (tS w W fun ρ S => .next (ρ.set i (.dd [])) S) :=
  psImp (ps_set nd hi hl.1 pe_dnewT rfl hl.2) fun D σ H ⟨ps, H0, ρ, S, env, st, q⟩ => fun p hp => by
    refine q _ _ (kd_upd hp) ((env.mono (Keep.upd hp)).setOwn ⟨p, [], rfl, upd_same, .nil, env.keep.back hp (st.ne hp)⟩ fun j t e1 o e2 => ?_) (st.upd hp)
    obtain ⟨u, hu⟩ := env.ownAt e1 o e2
    rw [hp] at hu
    cases hu
theorem kd_dT {H : Hp} {p : Addr} {ws : List (List Key × V)} {o : HO} (hp : H p = some (.dT ws)) : Kd w H (upd H p o) := fun b u e l => by
  rw [upd_ne (fun z => by subst z; rw [hp] at e; cases e; exact l)]
  exact e
theorem DRep.put {ps : Option Addr} {H : Hp} {k : List Int} {v : V} {d : D} (r : Rep w ps H v d) {ws : List (List Key × V)} {kvs : List (List Int × D)} (h : DRep w ps H ws kvs) : DRep w ps H (putK ws (k.map Sum.inl) v) (dput kvs k d) := by
  have any : (ws.any fun kv => decide (kv.1 = k.map Sum.inl)) = kvs.any fun kv => decide (kv.1 = k) := by
    unfold DRep at h
    induction h with
    | nil => rfl
    | cons r t ih =>
      rw [List.any_cons, List.any_cons, ih]
      congr 1
      rw [r.1]
      exact decide_eq_decide.mpr inl_inj
  unfold putK dput
  rw [any]
  split
  · rename_i hh
    clear hh any
    unfold DRep at h ⊢
    induction h with
    | nil => exact .nil
    | @cons a b l1 l2 r1 t ih =>
      refine .cons ?_ ih
      dsimp only
      by_cases hk : b.1 = k
      · have ha : a.1 = k.map Sum.inl := by rw [r1.1, hk]
        rw [if_pos hk, if_pos ha]
        exact ⟨r1.1, r⟩
      · have ha : ¬ a.1 = k.map Sum.inl := by rw [r1.1]; exact fun z => hk (inl_inj.mp z)
        rw [if_neg hk, if_neg ha]
        exact r1
  · rename_i hh
    clear hh any
    unfold DRep at h ⊢
    induction h with
    | nil => exact .cons ⟨rfl, r⟩ .nil
    | cons r1 t ih => exact .cons r1 ih
theorem os_putd {i : Nat} {y : Str} {z v : Expr} {p r : Pos} {de dk : Rho → Sx → R D} (hu : X.A.units + 66 < cLine) (hs : slB X.N X.env.scope i y = true) (hz : (match z with | .Slice .. => false | _ => true) = true) (hp : plainV v = true) (hk : PE X z (tE w W 0 dk)) (he : PE X v (tE w W 0 de)) :
    PS X (.Assign [.Subscript (.Name y p) z r] v pos) (tS w W fun ρ S => (de ρ S).toS fun d S => match ρ[i]? with
    | some (.dd kvs) => (dk ρ S).toS fun y S => (match keyOf y with
      | some k => if kvs.length < sizeLine then .next (ρ.set i (.dd (dput kvs k d))) S else .stuck
      | none => .stuck)
    | _ => .stuck) := by
  obtain ⟨h1, h2, h3, h4⟩ := sl_of hs
  refine psImp (ps_dput (by omega) (pe_var (pos := p) h1 h2 h3 h4) hk he (sw_plain hp)) fun D σ H ⟨ps, H0, ρ, S, env, st, q⟩ => ⟨ps, H0, ρ, S, env, st, Pst.imp (toS_st env.keep q) fun d S1 q1 x H1 k1 st1 r1 => ?_⟩
  split at q1
  · rename_i kvs e
    have env1 := env.mono k1
    obtain ⟨p, ws, es, hpp, dr, n⟩ := env1.slot i _ e
    refine ⟨.ref p, es, ps, H0, ρ, S1, env1, st1, Pst.imp (toS_st env1.keep (PostS.mono k1.kd q1)) fun d2 S2 q2 x2 H2 k2 st2 r2 => ?_⟩
    split at q2
    · rename_i k hkk
      split at q2
      · rename_i hlen
        obtain ⟨b, rfl, hb⟩ := key_rep r2 hkk
        have hp2 : H2 p = some (.dT ws) := by
          rcases k2 _ _ hpp with z | ⟨_, _, z⟩
          · exact z
          · cases z
        have dr2 := dr.mono (k2.kd (w := w))
        refine ⟨p, _, rfl, .inr ⟨ws, _, b, hp2, rfl, hb, by rw [dr.length]; exact hlen, rfl⟩, q2 σ _ (k2.kd.trans (kd_dT hp2)) ?_ ?_⟩
        · exact (env1.mono k2).ownUpd e rfl es hp2 (kd_dT hp2) (fun _ _ _ z => nomatch z) n ⟨p, _, rfl, upd_same, (dr2.put (Rep.mono k2.kd r1)).mono (kd_dT hp2), n⟩
        · exact st2.mono (fun q vs e1 e2 => by rw [upd_ne (fun z => by subst z; rw [hp2] at e2; cases e2)]; exact e2) (kd_dT hp2)
      · exact q2.elim
    · exact q2.elim
  · exact q1.elim
theorem drep_keys {ps : Option Addr} {H : Hp} : ∀ {ws : List (List Key × V)} {kvs : List (List Int × D)}, DRep w ps H ws kvs → ws.map (·.1) = (kvs.map (·.1)).map (·.map Sum.inl) ∧ RepAll w ps H (ws.map (·.2)) (kvs.map (·.2))
  | _, _, .nil => ⟨rfl, .nil⟩
  | _, _, .cons r t => by
    obtain ⟨h1, h2⟩ := drep_keys t
    rw [List.map_cons, List.map_cons, List.map_cons, List.map_cons, List.map_cons, h1, r.1]
    exact ⟨rfl, .cons r.2 h2⟩
/-- a dict of one's own is locked for good -/
theorem oss_frzd {l : List Stmt} {i : Nat} {d : Rho → Sx → RS} (h : PSs X l (tS w W d)) : PSs X l (tS w W fun ρ S => (match (ρ[i]? : Option Sl) with
    | some (Sl.dd kvs) => RS.next (ρ.set i (.v (.dic (kvs.map Prod.fst) (kvs.map Prod.snd)))) S
    | _ => .stuck).next? fun ρ S => d ρ S) :=
  ⟨fun pins s σ H D I ⟨ps, H0, ρ, S, env, st, q⟩ => by
    have q' : PostS w W ps H0 { D with nx := fun σ' H' => tS w W d D σ' H' } (match (ρ[i]? : Option Sl) with
      | some (Sl.dd kvs) => RS.next (ρ.set i (.v (.dic (kvs.map Prod.fst) (kvs.map Prod.snd)))) S
      | _ => .stuck) H := next_st q
    split at q'
    · rename_i kvs e
      obtain ⟨p, ws, es, hp, dr, n⟩ := env.slot i _ e
      obtain ⟨od, I2⟩ := I.lock hp trivial
      obtain ⟨e1, e2⟩ := drep_keys dr
      refine h.run pins s σ _ D I2 (q' σ _ (kd_dT hp) ?_ (st.mono (fun q vs e1 e2 => by rw [upd_ne (fun z => by subst z; rw [hp] at e2; cases e2)]; exact e2) (kd_dT hp)))
      exact env.ownUpd e rfl es hp (kd_dT hp) (fun _ _ _ z => nomatch z) n ⟨.ref p, rfl, .dic upd_same e1 (e2.mono (kd_dT hp))⟩
    · exact q'.elim⟩
end
end Pu

/-! ======== Pu16b ======== -/
/-! try. -/
namespace Pu
open PySem PySem.Spec PyProof.Rows L2
/-! ### try, with several clauses, some with a name -/
abbrev Hk := Value × Option Nat × (Addr → Value → Option Addr → TS)
def wN (K : PySem.W.Frag) (Wout : WX) (D : Ends) : List Hk → WX
  | [] => Wout
  | (c, none, ts) :: r => fun cls d σ H => ∃ b, PySem.W.exmOne K cls c = some b ∧ (b = true → ∀ a, H a = none → ts a cls d D σ H) ∧ (b = false → wN K Wout D r cls d σ H)
  | (c, some i, ts) :: r => fun cls d σ H => ∃ b, PySem.W.exmOne K cls c = some b ∧ (b = true → ∀ a, H a = none → ts a cls d { nx := fun σ' H' => D.nx (σ'.set i none) H', rt := D.rt, bk := fun σ' H' => D.bk (σ'.set i none) H', ct := fun σ' H' => D.ct (σ'.set i none) H' } (σ.set i (some (.ref a))) H) ∧ (b = false → wN K Wout D r cls d σ H)
inductive HdsN (X : Cx) : List ExceptHandler → List Hk → Prop
  | nil : HdsN X [] []
  | cons {x : Str} {c : Value} {ts : Addr → Value → Option Addr → TS} {b₀ : Stmt} {suite : List Stmt} {np pos' : Pos} {hds : List ExceptHandler} {l : List Hk} (hc : Names X x c)
      (hsu : ∀ (a : Addr) (oe : Obj) (cls : Value) (d : Option Addr) (pn : List (Addr × Obj)), Zc cls d oe → (∃ vs, oe.data = .fields vs) → PSs (X.suite a ((a, oe) :: pn)) (b₀ :: suite) (ts a cls d)) (r : HdsN X hds l) :
      HdsN X (.ExceptHandler (some (.Name x np)) none (b₀ :: suite) pos' :: hds) ((c, none, ts) :: l)
  | named {x n : Str} {i : Nat} {c : Value} {ts : Addr → Value → Option Addr → TS} {b₀ : Stmt} {suite : List Stmt} {np pos' : Pos} {hds : List ExceptHandler} {l : List Hk} (hc : Names X x c) (hi : X.N[i]? = some n) (hln : X.env.kindOf n = some .local)
      (hsu : ∀ (a : Addr) (oe : Obj) (cls : Value) (d : Option Addr) (pn : List (Addr × Obj)), Zc cls d oe → (∃ vs, oe.data = .fields vs) → PSs (X.suite a ((a, oe) :: pn)) (b₀ :: suite) (ts a cls d)) (r : HdsN X hds l) :
      HdsN X (.ExceptHandler (some (.Name x np)) (some n) (b₀ :: suite) pos' :: hds) ((c, some i, ts) :: l)
section
variable {X : Cx} {body : List Stmt} {h₀ : ExceptHandler} {hds : List ExceptHandler} {l : List Hk} {pos : Pos} {tb : WX → TS} {Wout : WX}
theorem ps_tryN (hs : X.stack = X.env :: X.outer) (hf : X.env.frame = some X.env.locals) (hN : X.N.Nodup) (tk : Takes X Wout)
    (hb : ∀ (W : WX) (pn : List (Addr × Obj)) (xe : Value → Shared → Prop), Takes (X.tr pn xe) W → PassesOwn (model X.prog X.w) X.A X.env xe → PSs (X.tr pn xe) body (tb W))
    (hh : HdsN X (h₀ :: hds) l) : PS X (.Try body (h₀ :: hds) [] [] pos) (fun D σ H => tb (wN X.K Wout D l) D σ H) := by
  refine ⟨fun pins s σ H D I h => ?_⟩
  have ok := I.ok
  have hfr : X.A.frames = some (X.env :: X.outer) := by rw [ok.frames, hs]
  refine wpAny_Try_except ?_
  refine wpAny_mono ((hb (wN X.K Wout D l) (X.pn ++ pins) (fun e s₁ => wpAny (model X.prog X.w) X.A (noteFrame e X.env) (fun _ s₂ => wpAny (model X.prog X.w) X.A (setFlight e none) (fun _ s₃ =>
    wpAny (model X.prog X.w) X.A (handleBy e X.env (h₀ :: hds)) (SP X pins D) X.xe s₃) X.xe s₂) X.xe s₁) (fun u s' xx => ?_) PassesOwn.looking).run [] s σ H D (I.toTry _) h) (fun f s1 hsp => ?_) (fun e s1 he => he)
  · obtain ⟨a, B, sI, pins', σ', H', cls, d, rfl, J', nb, up, sky, na, os, ag, w⟩ := xx
    have J : L2.Inv X pins σ' H' sI := J'.ofTry ok
    have sky' : Sky B (X.env :: X.outer) a (Zc cls d) X.env.locals s'.heap := by rw [← hs]; exact sky
    show wpAny (model X.prog X.w) X.A (noteFrame (.ref a) X.env) _ _ _
    refine Sky.land Zc.steady hfr hf sky' fun h3 fl3 up3 => ?_
    have J3 : L2.Inv X pins σ' H' { s' with heap := h3 } := J.landed nb fl3.1 (up.trans up3) os ag
    obtain ⟨oe3, vs3, he3, hz3, hd3⟩ := fl3.there
    have nfr : a ∉ frs (X.env :: X.outer) := fun hm => by
      obtain ⟨_, o', e', hnf⟩ := fl3.2.2.1.mem hm
      rw [he3] at e'; cases e'
      exact hnf _ hd3
    have nL : a ≠ X.env.locals := fun z => nfr (List.mem_filterMap.mpr ⟨X.env, List.mem_cons_self, by rw [hf, z]⟩)
    have nF : a ∉ X.fs := fun hm => by
      obtain ⟨e, he, q⟩ := List.mem_filterMap.mp hm
      exact nfr (List.mem_filterMap.mpr ⟨e, List.mem_cons_of_mem _ he, q⟩)
    have S3 := J3.suite he3 hd3 na nL nF
    have LT : PySem.W.Looks (model X.prog X.w) h3 (typeOf (.ref a)) cls := fun A Q E s k q => wpAny_typeOf_ref (k _ _ he3) (by rw [hz3.1]; exact q)
    have test : ∀ {x : Str} {c : Value} {np : Pos}, Names X x c → ∀ {Q : Value → Shared → Prop} {E : Value → Shared → Prop}, Q c { s' with heap := h3 } → wpAny (model X.prog X.w) (X.A.mark (some (.ref a))) (eval (.Name x np) X.env) Q E { s' with heap := h3 } := fun {x c np} hc {Q E} q => by
      obtain ⟨hg, hdbg, hm | ⟨hm, hv, hnn⟩⟩ := hc
      · exact ld_glob (X := X.suite a ((a, oe3) :: (X.pn ++ pins))) S3 hg hm q hdbg
      · exact ld_blt (X := X.suite a ((a, oe3) :: (X.pn ++ pins))) S3 hg hm hv q hnn hdbg
    have go : ∀ {hds' : List ExceptHandler} {l' : List Hk}, HdsN X hds' l' → wN X.K Wout D l' cls d σ' H' →
        wpAny (model X.prog X.w) X.A (handleBy (.ref a) X.env hds') (SP X pins D) X.xe { s' with heap := h3 } := by
      intro hds' l' hk
      induction hk with
      | nil =>
        intro w
        refine wpAny_handleBy_nil ?_
        obtain ⟨k1, k2, k3, oe, vs, T, oT, ts', he, hz, hd, h1, hr⟩ := id fl3
        unfold PySem.passOn
        refine wpAny_bind (wpAny_field he hd h1 ?_)
        rw [if_neg (show ¬ ((Value.ref T == Value.none) = true) from by simp)]
        have fin : wpAny (model X.prog X.w) X.A (setFlight (.ref a) X.env.frame) (fun _ s4 => wpAny (model X.prog X.w) X.A (throw (.ref a) : Sem Flow) (SP X pins D) X.xe s4) X.xe { s' with heap := h3 } := by
          rw [hf]
          refine HandSPX.setFlight_upZ fl3 fun h4 hh4 up4 => wpAny_throw (tk _ _ ?_)
          exact ⟨a, B, sI, pins, σ', H', cls, d, rfl, J, nb, (up.trans up3).trans up4, .inr (.inr (by rw [hs]; exact hh4)), na, os, ag, w⟩
        first
          | exact wpAny_bind (wpAny_pure (wpAny_bind fin))
          | exact wpAny_bind fin
      | @cons x c ts b₀ suite np pos' hds2 l2 hc hsu r ih =>
        intro w
        obtain ⟨b, hb1, hyes, hno⟩ := w
        refine wpAny_handleBy_cons (codeAny_handlers_test ?_) (by intro q; cases q)
        refine test hc ((PySem.W.exm_one (M := model X.prog X.w) (J3.kIn) LT hb1).here ?_)
        cases b with
        | true =>
          refine codeAny_handlers_suite ?_
          refine HandSPX.lands_againZ fl3 fun h4 fl4 up4 => ?_
          have J4 : L2.Inv X pins σ' H' { s' with heap := h4 } := J.landed nb fl4.1 ((up.trans up3).trans up4) os ag
          obtain ⟨oe4, vs4, he4, hz4, hd4⟩ := fl4.there
          have S4 := J4.suite he4 hd4 na nL nF
          refine wpAny_mono ((hsu a oe4 cls d (X.pn ++ pins) hz4 ⟨_, hd4⟩).run [] _ _ H' _ S4 (hyes rfl a na)) (fun f s6 hsp => ?_) (fun _ _ z => False.elim z)
          cases f with
          | ret u =>
            obtain ⟨v6, σ6, H6, S6, r6, q6⟩ := hsp
            exact ⟨_, _, _, S6.unsuite ok, r6, q6⟩
          | _ =>
            obtain ⟨σ6, H6, S6, q6⟩ := hsp
            exact ⟨_, _, S6.unsuite ok, q6⟩
        | false =>
          show wpAny _ X.A (handleBy (.ref a) X.env hds2) _ _ _
          exact ih (hno rfl)
      | @named x n i c ts b₀ suite np pos' hds2 l2 hc hi hln hsu r ih =>
        intro w
        obtain ⟨b, hb1, hyes, hno⟩ := w
        refine wpAny_handleBy_cons (codeAny_handlers_test ?_) (by intro q; cases q)
        refine test hc ((PySem.W.exm_one (M := model X.prog X.w) (J3.kIn) LT hb1).here ?_)
        cases b with
        | true =>
          refine codeAny_handlers_suite_as ?_
          refine HandSPX.lands_againZ fl3 fun h4 fl4 up4 => ?_
          have J4 : L2.Inv X pins σ' H' { s' with heap := h4 } := J.landed nb fl4.1 ((up.trans up3).trans up4) os ag
          obtain ⟨oe4, vs4, he4, hz4, hd4⟩ := fl4.there
          have S4 := J4.suite he4 hd4 na nL nF
          refine store_ok (X := X.suite a ((a, oe4) :: (X.pn ++ pins))) (v := .ref a) S4 hN hi (.inl hln) rfl (fun s5 S5 => ?_) (.inr hln)
          refine wpAny_mono ((hsu a oe4 cls d (X.pn ++ pins) hz4 ⟨_, hd4⟩).run [] s5 _ H' _ S5 (hyes rfl a na)) (fun f s6 hsp => ?_) (fun _ _ z => False.elim z)
          have end_ : ∀ {σ6 : L2.St} {H6 : Hp} {Q : Shared → Prop}, L2.Inv (X.suite a ((a, oe4) :: (X.pn ++ pins))) [] σ6 H6 s6 → (∀ s7, L2.Inv X pins (σ6.set i none) H6 s7 → Q s7) →
              wpAny (model X.prog X.w) X.A (do bindName X.env n .none; unbindBehindTheSuite X.env n pos') (fun _ s7 => Q s7) X.xe s6 := fun {σ6 H6 Q} S6 hq => gone_ok (S6.unsuite ok) hN hi hln hq
          cases f with
          | ret u =>
            obtain ⟨v6, σ6, H6, S6, r6, q6⟩ := hsp
            exact end_ S6 fun s7 J7 => ⟨_, _, _, J7, r6, q6⟩
          | _ =>
            obtain ⟨σ6, H6, S6, q6⟩ := hsp
            exact end_ S6 fun s7 J7 => ⟨_, _, J7, q6⟩
        | false =>
          show wpAny _ X.A (handleBy (.ref a) X.env hds2) _ _ _
          exact ih (hno rfl)
    exact go hh w
  · cases f with
    | next =>
      obtain ⟨σ', H', J', q⟩ := hsp
      exact wpAny_execs_nil ⟨σ', H', J'.ofTry ok, q⟩
    | brk =>
      obtain ⟨σ', H', J', q⟩ := hsp
      exact ⟨σ', H', J'.ofTry ok, q⟩
    | cont =>
      obtain ⟨σ', H', J', q⟩ := hsp
      exact ⟨σ', H', J'.ofTry ok, q⟩
    | ret u =>
      obtain ⟨v, σ', H', J', r, q⟩ := hsp
      exact ⟨v, σ', H', J'.ofTry ok, r, q⟩
end
end Pu

/-! ======== Pu16c ======== -/
/-! A dict written out, one pair. -/
namespace Pu
open PySem PySem.Spec PyProof.Rows L2
section
variable {w : Wd} {W : XK} {X : Cx} {pos p q : Pos}
/-- an object that no slot owns is rewritten -/
theorem EnvOk.updOff {ps : Option Addr} {H0 H : Hp} {ρ : Rho} {σ : L2.St} {p : Addr} {u o : HO} (env : EnvOk w ps H0 ρ σ H) (hp : H p = some u) (kd : Kd w H (upd H p o)) (ni : ∀ C dx fs, u ≠ .ins C dx fs) (n : H0 p = none)
    (off : ∀ (j : Nat) (t : Sl), ρ[j]? = some t → t.own = true → σ[j]? ≠ some (some (V.ref p))) : EnvOk w ps H0 ρ σ (upd H p o) := by
  refine ⟨fun b u e => ?_, env.len, fun j t e => ?_, env.own⟩
  · rcases env.keep b u e with z | z
    · exact .inl (by rw [upd_ne (fun y => by subst y; rw [n] at e; cases e)]; exact z)
    · exact .inr z
  · have z := env.slot j t e
    cases t with
    | un => trivial
    | v d => obtain ⟨v, a, b⟩ := z; exact ⟨v, a, b.mono kd⟩
    | b es =>
      obtain ⟨q, us, a, b, c, d, f⟩ := z
      have ne : q ≠ p := fun y => by subst y; exact off j _ e rfl a
      exact ⟨q, us, a, by rw [upd_ne ne]; exact b, c.mono kd, d, f⟩
    | dd es =>
      obtain ⟨q, us, a, b, c, d⟩ := z
      have ne : q ≠ p := fun y => by subst y; exact off j _ e rfl a
      exact ⟨q, us, a, by rw [upd_ne ne]; exact b, c.mono kd, d⟩
    | o c fs =>
      obtain ⟨hc, q, dx, vfs, a, b, c1, c2, d, f⟩ := z
      have ne : q ≠ p := fun y => by subst y; rw [hp] at b; exact ni _ _ _ (Option.some.inj b)
      exact ⟨hc, q, dx, vfs, a, by rw [upd_ne ne]; exact b, c1, c2.mono kd, d, f⟩
theorem os_asgd1 {i : Nat} {y : Str} {k v : Expr} {dk de : Rho → Sx → R D} (hu : X.A.units + 66 < cLine) (nd : X.N.Nodup) (hi : X.N[i]? = some y) (hl : LocF X y)
    (hk : PE X k (tE w W 0 dk)) (he : PE X v (tE w W 0 de)) : PS X (.Assign [.Name y p] (.Dict [some k] [v] q) pos) (tS w W fun ρ S => (dk ρ S).toS fun y S => (de ρ S).toS fun d S => match keyOf y with
    | some k => .next (ρ.set i (.dd [(k, d)])) S
    | none => .stuck) :=
  psImp (ps_set nd hi hl.1 (pe_disp1 (by omega) hk he) rfl hl.2) fun D σ H ⟨ps, H0, ρ, S, env, st, q⟩ => fun p hp => by
    have k0 : Keep ps H (upd H p (.dT [])) := Keep.upd hp
    have env0 := env.mono k0
    refine ⟨ps, H0, ρ, S, env0, st.upd hp, Pst.imp (toS_st env0.keep (PostS.mono k0.kd q)) fun d1 S1 q1 x H1 k1 st1 r1 => ?_⟩
    have env1 := env0.mono k1
    refine ⟨ps, H0, ρ, S1, env1, st1, Pst.imp (toS_st env1.keep (PostS.mono k1.kd q1)) fun d2 S2 q2 x2 H2 k2 st2 r2 => ?_⟩
    split at q2
    · rename_i key hkk
      obtain ⟨b, rfl, hb⟩ := key_rep (Rep.mono k2.kd r1) hkk
      have hp2 : H2 p = some (.dT []) := by
        have h1 : H1 p = some (.dT []) := by
          rcases k1 _ _ upd_same with z | ⟨_, _, z⟩
          · exact z
          · cases z
        rcases k2 _ _ h1 with z | ⟨_, _, z⟩
        · exact z
        · cases z
      have n0 : H0 p = none := env.keep.back hp (st.ne hp)
      refine ⟨_, b, rfl, hb, hp2, ?_⟩
      have env2 := env1.mono k2
      have off : ∀ (j : Nat) (t : Sl), ρ[j]? = some t → t.own = true → σ[j]? ≠ some (some (V.ref p)) := fun j t e1 o e2 => by
        obtain ⟨u, hu⟩ := env.ownAt e1 o e2
        rw [hp] at hu
        cases hu
      have dr : DRep w ps (upd H2 p (.dT [(key.map Sum.inl, x2)])) [(key.map Sum.inl, x2)] [(key, d2)] := DRep.mono (kd_dT hp2) (.cons ⟨rfl, r2⟩ .nil)
      have env3 := env2.updOff (o := .dT [(key.map Sum.inl, x2)]) hp2 (kd_dT hp2) (fun _ _ _ z => nomatch z) n0 off
      exact q2 _ _ (k2.kd.trans (kd_dT hp2)) (env3.setOwn ⟨p, _, rfl, upd_same, dr, n0⟩ off) (st2.mono (fun q vs e1 e2 => by rw [upd_ne (fun z => by subst z; rw [hp2] at e2; cases e2)]; exact e2) (kd_dT hp2))
    · exact q2.elim
end
end Pu

/-! ======== Pu17 ======== -/
/-! Every statement of the small language. -/
namespace Pu
open PySem PySem.Spec PyProof.Rows L2
theorem sw_lc {elt : Expr} {gs : List Comprehension} {scope : Scope} {pos py : Pos} {y : Str} {l : Nat} {env : Env} :
    swapsWith (.ListComp elt gs scope pos) (some (.Name y py)) l env = pure false ∨ (swapsWith (.ListComp elt gs scope pos) (some (.Name y py)) l env = pure true ∧ env.scope.names.lookup y = some .local) := by
  have e : swapsWith (.ListComp elt gs scope pos) (some (.Name y py)) l env = pure (env.blockKind == .function && env.kindOf y == some .local && py.line == (Expr.ListComp elt gs scope pos).pos.line
      && !(scope.names.any fun (n, k) => n == y && (k == .local || k == .cell))) := by
    unfold swapsWith
    rfl
  rw [e]
  by_cases h : (env.kindOf y == some .local) = true
  · cases (env.blockKind == .function && env.kindOf y == some .local && py.line == (Expr.ListComp elt gs scope pos).pos.line
      && !(scope.names.any fun (n, k) => n == y && (k == .local || k == .cell))) with
    | true => exact .inr ⟨rfl, beq_iff_eq.mp h⟩
    | false => exact .inl rfl
  · have h' : (env.kindOf y == some .local) = false := by simpa using h
    rw [h', Bool.and_false, Bool.false_and, Bool.false_and]
    exact .inl rfl
structure CxtS (w : Wd) (nm : Nm) (T : Tab) (n : Nat) (W : XK) (X : Cx) : Prop extends Cxt w nm T n W X where
  po : PassesOwn (model X.prog X.w) X.A X.env X.xe
  fnT : ∀ x, X.fn x = true
  kind : X.env.scope.kind = .function
  stk : X.stack = X.env :: X.outer
  frm : X.env.frame = some X.env.locals
section
variable {w : Wd} {nm : Nm} {T : Tab} {n : Nat}
theorem CxtS.loc {W : XK} {X : Cx} (C : CxtS w nm T n W X) : ∀ x, locB X.env.scope x = true → LocF X x := fun x h => by
  refine ⟨?_, .inl (C.fnT x)⟩
  unfold locB at h
  split at h
  · exact .inl (by assumption)
  · exact .inr (by assumption)
  · cases h
theorem nmB_of {N : List Str} {sc : Scope} {i : Nat} {y : Str} {p : Pos} (h : nmB N sc i (.Name y p) = true) : N[i]? = some y ∧ locB sc y = true := by
  have h' : (eqS N[i]? y && locB sc y) = true := h
  exact ⟨(loc_of h').1, (Bool.and_eq_true _ _ ▸ h').2⟩
/-- what is made by a list display of another block -/
theorem lc_asg {W : XK} {X : Cx} (C : CxtS w nm T n W X) {elt : E} {tg : Tg} {src : Src} {cond : E} {own : List Nat} {i : Nat} {y : Str} {p pos : Pos} {v : Expr} (hy : nmB X.N X.env.scope i (.Name y p) = true) (h : chkE nm X.N (.lc elt tg src cond own) X.env.scope v = true) :
    PS X (.Assign [.Name y p] v pos) (tS w W ((S.asgb i (.lc elt tg src cond own)).den (gAt T n))) := by
  obtain ⟨hN, hl⟩ := nmB_of hy
  have he := (E.ok (.lc elt tg src cond own) C.toCxt v h).e 2 (by decide)
  unfold chkE at h
  split at h
  · rename_i el t it ifs s2 q
    rcases sw_lc (elt := el) (gs := [⟨t, it, ifs, 0⟩]) (scope := s2) (pos := q) (py := p) (y := y) (l := pos.line) (env := X.env) with hs | ⟨hs, hloc⟩
    · exact os_asgb he C.nd hN (C.loc y hl) hs
    · simp only [Bool.and_eq_true, decide_eq_true_eq] at h
      obtain ⟨⟨⟨⟨⟨⟨⟨h1, h2⟩, h3⟩, h4⟩, h5⟩, h6⟩, h7⟩, h8⟩ := h
      have ht : ∀ (s : Shared) (H : Hp) (c : Addr) (cl : List (Str × Addr)) (fp : List Addr), PTs (X.blk s H s2 (compEnvC s2 cl c X.env) fp) ifs (tT w W0 (fun ρ' S => truth (cond.den (gAt T n) 0 ρ' S))) := fun s H c cl fp => by
        split at h7
        · exact pts_no
        · cases h7
        · exact pts_one (E.ok cond (C.toCxt.blk s H s2 _ fp) _ h7).t
        · cases h7
      have base := ps_setLc (spos := pos) (pos := q) (py := p) C.calm C.nd hN hloc hs (Src.ok src C.toCxt t it 1 (by decide) h1) (blkOk_by h2)
        (fun s H c cl fp => pg_of (X' := X.blk s H s2 (compEnvC s2 cl c X.env) fp) C.K C.calm C.nd rfl (loc_blk s H s2 c cl fp) h3) ht (fun s H c cl fp => (E.ok elt (C.toCxt.blk s H s2 _ fp) el h6).e 0 (by decide)) (noSet_fold h8)
      refine psImp base fun D σ H ⟨ps, H0, ρ, S, env, st, q⟩ => ?_
      refine im_lc h5 (tgIn_ids h4) σ H _ ⟨ps, H0, ρ, S, env, st, Pst.imp (toS_st env.keep q) fun d S1 q1 v H1 k1 st1 r1 => ?_⟩
      cases d with
      | lst ds => exact q1 _ H1 k1.kd (new_box (d := .non) env k1 r1) st1
      | _ => exact q1.elim
  · cases h
theorem str_ret {X : Cx} {a : Addr} {pn : List (Addr × Obj)} {u : Str} {j k : Nat} {j2 : Nat} {p p2 p3 p4 : Pos} : PSs (X.suite a pn) [.Return (some (.Tuple [.Constant (.str u) j p, .Constant .none j2 p2] k p3)) p4] (tRet (tTup (tCons (tC (.str u)) (tCons (tC .non) tNil)))) :=
  pss_one (ps_ret (pe_tup (pa_cons pe_str (pa_cons pe_non pa_nil))))
/-- e.f, e the exception that the suite holds -/
def tBy (C : Addr) (f : Str) (a : Addr) (cls : Value) (d : Option Addr) (te : TE) : TE := fun σ H Q => te σ H fun x H1 => x = .ref a ∧ cls = .ref C ∧ ∃ (dd : Addr) (v : V), d = some dd ∧ H1 dd = some (.xd [(f, v)]) ∧ Q v H1
theorem pe_by {X : Cx} {c : Nat} {f : Str} {a : Addr} {oe : Obj} {cls : Value} {d : Option Addr} {pn : List (Addr × Obj)} {e : Expr} {te : TE} {pos : Pos} (hK : X.K = w.K) (T : ExF w c) (hp : w.pay c = some f) (hz : Zc cls d oe) (hf : ∃ vs, oe.data = .fields vs) (he : PE (X.suite a ((a, oe) :: pn)) e te)
    (hb : attributeBase e f X.env (eval e X.env) = eval e X.env) : PE (X.suite a ((a, oe) :: pn)) (.Attribute e f pos) (tBy (w.ca c) f a cls d te) := by
  refine ⟨fun pins s σ H Q I h => ?_⟩
  refine attr_of hb (thn (he.run pins s σ H _ I h) fun u s1 hh => ?_)
  obtain ⟨x, H1, I1, rx, ex, ec, dd, v, ed, ea, q⟩ := hh
  subst ex
  obtain rfl : u = Value.ref a := rx
  subst ec
  subst ed
  obtain ⟨ha, _⟩ := I1.pin (a, oe) (List.mem_append_left _ List.mem_cons_self)
  obtain ⟨vs, hd⟩ := hf
  have hx : ObjOk X.prog X.w H1 s1.heap dd (.xd [(f, v)]) := I1.hok dd _ ea
  obtain ⟨mA, hns, hr⟩ := hx
  obtain ⟨od, ho, hl⟩ := lookIn_ns hns
  have l : List.lookup f [(f, v)] = some v := by simp [List.lookup]
  obtain ⟨u, hu, ru⟩ := RelO.some_of (v := v) (o := mA f) (by rw [← l]; exact hr f)
  have J : PySem.W.InstAt s1.heap a oe (w.ca c) (some od) := ⟨ha, hz.1, by unfold PySem.W.notCls; rw [hd] <;> rfl, by rw [hz.2]; exact ho⟩
  have kin : w.K.In s1.heap := hK ▸ I1.kIn
  exact HandSPX.exc_get kin J T.ga T.gg T.exC (PySem.W.findObj_own T.hdC (T.noN f hp) rfl (by rw [hl, hu])) (handed_of ru) ⟨v, H1, I1.tok _, ru, q⟩
theorem names_of {W : XK} {X : Cx} (C : CxtS w nm T n W X) {c : Nat} (h : nm.ex c = true) (hg : glB X.env.scope (nm.cl c) = true) : Names X (nm.cl c) (.ref (w.ca c)) := by
  obtain ⟨g1, g2⟩ := gl_of hg
  exact ⟨g1, g2, .inl (C.fx.mex c h)⟩
theorem os_told {W : XK} {X : Cx} (C : CxtS w nm T n W X) {l : List Stmt} {db : Rho → Sx → RS} {c1 c2 i : Nat} {s1 s2 f y : Str} {j1 j2 j3 k1 k2 : Nat} {p1 p2 p3 p4 p5 p6 p7 p8 p9 p10 p11 p12 p13 pos : Pos}
    (hb : ∀ {W' : XK} {X' : Cx}, CxtS w nm T n W' X' → X'.N = X.N → X'.env.scope = X.env.scope → PSs X' l (tS w W' db)) (h1 : nm.ex c1 = true) (h2 : nm.ex c2 = true) (g1 : glB X.env.scope (nm.cl c1) = true) (g2 : glB X.env.scope (nm.cl c2) = true)
    (hs : slB X.N X.env.scope i y = true) (hl : onlyLocB X.env.scope y = true) (hp : nm.pay c2 = some f) :
    PS X (.Try l [.ExceptHandler (some (.Name (nm.cl c1) p1)) none [.Return (some (.Tuple [.Constant (.str s1) j1 p2, .Constant .none j2 p3] k1 p4)) p5] p6,
      .ExceptHandler (some (.Name (nm.cl c2) p7)) (some y) [.Return (some (.Tuple [.Constant (.str s2) j3 p8, .Attribute (.Name y p9) f p10] k2 p11)) p12] p13] [] [] pos) (tS w W fun ρ S => toldD c1 s1 c2 s2 (db ρ S)) := by
  obtain ⟨e1, e2, e3, e4⟩ := sl_of hs
  have hloc : X.env.kindOf y = some .local := by
    unfold onlyLocB at hl
    split at hl
    · assumption
    · cases hl
  have hpw : w.pay c2 = some f := by rw [C.fx.pay]; exact hp
  have hd : HdsN X [.ExceptHandler (some (.Name (nm.cl c1) p1)) none [.Return (some (.Tuple [.Constant (.str s1) j1 p2, .Constant .none j2 p3] k1 p4)) p5] p6,
      .ExceptHandler (some (.Name (nm.cl c2) p7)) (some y) [.Return (some (.Tuple [.Constant (.str s2) j3 p8, .Attribute (.Name y p9) f p10] k2 p11)) p12] p13]
      [(.ref (w.ca c1), none, fun a cls d => tRet (tTup (tCons (tC (.str s1)) (tCons (tC .non) tNil)))), (.ref (w.ca c2), some i, fun a cls d => tRet (tTup (tCons (tC (.str s2)) (tCons (tBy (w.ca c2) f a cls d (tVar i)) tNil))))] :=
    .cons (names_of C h1 g1) (fun a oe cls d pn hz hf => str_ret) (.named (names_of C h2 g2) e1 hloc (fun a oe cls d pn hz hf =>
      pss_one (ps_ret (pe_tup (pa_cons pe_str (pa_cons (pe_by C.K (C.fx.ex c2 h2) hpw hz hf (pe_var (X := X.suite a ((a, oe) :: pn)) e1 e2 e3 e4) ab_name) pa_nil))))) .nil)
  refine psImp (ps_tryN (tb := fun Wn => tS w (fun c d H => ∀ σ : L2.St, σ.length = X.N.length → Wn c d σ H) db) C.stk C.frm C.nd C.tk (fun Wn pn xe tk po => hb (X' := X.tr pn xe) ⟨⟨C.K, C.calm, C.nd, C.room, fun u s' ⟨a, B, sI, pins, σ, H, cls, d, e, I, nb, up, sky, na, os, ag, z⟩ => tk u s' ⟨a, B, sI, pins, σ, H, cls, d, e, I, nb, up, sky, na, os, ag, z σ I.len⟩, C.fx⟩, po, C.fnT, C.kind, C.stk, C.frm⟩ rfl rfl) hd) fun D σ H ⟨ps, H0, ρ, S, env, st, q⟩ => ⟨ps, H0, ρ, S, env, st, ?_⟩
  have q : PostS w W ps H0 D (toldD c1 s1 c2 s2 (db ρ S)) H := q
  cases hdb : db ρ S with
  | next ρ' S' => rw [hdb] at q; exact q
  | ret fr d S' => rw [hdb] at q; exact q
  | stuck => rw [hdb] at q; exact q
  | exc c p S' =>
    rw [hdb] at q
    intro dx H' k st' x σ' hlen
    have iN : i < X.N.length := (List.getElem?_eq_some_iff.mp e1).1
    have line : 2 ≤ sizeLine := by rw [sizeLine_eq]; omega
    have q' : PostS w W ps H0 D (if c = c1 then .ret false (.tup [.str s1, .non]) S' else if c = c2 then (match (generalizing := false) p with
      | some d => .ret false (.tup [.str s2, d]) S'
      | none => .stuck) else .stuck) H := q
    have put : ∀ {a b : V} {da db : Pu.D} {S0 : Sx} {qa : Addr}, Rep w ps H' a da → Rep w ps H' b db → H' qa = none → PostS w W ps H0 D (.ret false (.tup [da, db]) S') H → D.rt (.ref qa) (upd H' qa (.tup [a, b])) := fun {a b da db S0 qa} ra rb hn q => by
      have kd : Kd w H' (upd H' qa (.tup [a, b])) := kd_upd hn
      exact q _ _ (k.trans (Keep.upd hn)) (st'.upd hn) (.tup upd_same (.cons (ra.mono kd) (.cons (rb.mono kd) .nil)))
    by_cases hc1 : c = c1
    · subst hc1
      rw [if_pos rfl] at q'
      rw [C.K]
      refine ⟨true, by rw [C.fx.exm c c h1 h1]; simp, fun _ a ha => ⟨line, fun qa hqa => put (S0 := S') (.str s1) .non hqa q'⟩, fun z => Bool.noConfusion z⟩
    · rw [if_neg hc1] at q'
      by_cases hc2 : c = c2
      · subst hc2
        rw [if_pos rfl] at q'
        cases p with
        | none => exact q'.elim
        | some d =>
          have x' : (match w.pay c with
            | none => True
            | some f => ∃ dd v d', dx = some dd ∧ some d = some d' ∧ H' dd = some (.xd [(f, v)]) ∧ Rep w ps H' v d') := x
          rw [hpw] at x'
          obtain ⟨dd, v, d', ed, e5, hdd, rv⟩ := x'
          cases e5
          rw [C.K]
          refine ⟨false, by rw [C.fx.exm c c1 h2 h1]; simp [hc1], fun z => Bool.noConfusion z, fun _ => ⟨true, by rw [C.fx.exm c c h2 h2]; simp, fun _ a ha => ?_, fun z => Bool.noConfusion z⟩⟩
          exact ⟨.ref a, List.getElem?_set_self (by rw [hlen]; exact iN), rfl, rfl, dd, v, ed, hdd, line, fun qa hqa => put (S0 := S') (.str s2) rv hqa q'⟩
      · rw [if_neg hc2] at q'
        exact q'.elim
theorem os_raise {W : XK} {X : Cx} (C : CxtS w nm T n W X) {c : Nat} {z : Str} {j : Nat} {p p2 p3 pos : Pos} (h : nm.ex c = true) (hg : glB X.env.scope (nm.cl c) = true) :
    PS X (.Raise (some (.Call (.Name (nm.cl c) p) [.Constant (.str z) j p2] [] p3)) none pos) (tS w W fun ρ S => .exc c (some (.str z)) S) :=
  psImp (ps_raise C.calm C.tk (C.fx.rs c h X rfl rfl C.K rfl rfl (C.room.mono (by unfold lev; omega)) hg z j p p2 p3)) fun D σ H ⟨ps, H0, ρ, S, env, st, q⟩ => fun dx H' k hx => by
    have k' : Keep ps H H' := fun b o e => by
      rcases k b o e with y | ⟨y, _⟩
      · exact .inl y
      · cases y
    refine q dx H' (env.keep.trans k') (st.mono (fun p vs _ e => ?_) k'.kd) ?_
    · rcases k _ _ e with y | ⟨y, _⟩
      · exact y
      · cases y
    · show (match w.pay c with
        | none => True
        | some f => ∃ dd v d, dx = some dd ∧ some (Pu.D.str z) = some d ∧ H' dd = some (.xd [(f, v)]) ∧ Rep w ps H' v d)
      cases e : w.pay c with
      | none => trivial
      | some f =>
        rw [e] at hx
        obtain ⟨dd, h1, h2⟩ := hx
        exact ⟨dd, .str z, .str z, h1, rfl, h2, .str z⟩
mutual
theorem S.ok : ∀ (s : S) {W : XK} {X : Cx} (C : CxtS w nm T n W X) (x : Stmt), chkS nm X.N X.env.scope s x = true → PS X x (tS w W (s.den (gAt T n)))
  | .asg t e, W, X, C, x, h => by
    unfold chkS at h
    split at h
    · rename_i tg v p
      simp only [Bool.and_eq_true] at h
      obtain ⟨⟨⟨h1, h2⟩, h3⟩, h4⟩ := h
      have hg := pg_of C.K C.calm C.nd rfl C.loc h1
      have he := (E.ok e C.toCxt v h2).e 0 (by decide)
      split at h4
      · exact os_asg he hg (sw_sole h3) (sw_none h4) rfl
      · exact os_asg he hg (sw_sole h3) sw_name rfl
      · cases h4
    · cases h
  | .asgb i e, W, X, C, x, h => by
    unfold chkS at h
    split at h
    · rename_i y p v q
      simp only [Bool.and_eq_true] at h
      obtain ⟨h1, h2⟩ := h
      by_cases hp : plainV v = true
      · obtain ⟨hN, hl⟩ := nmB_of h1
        exact os_asgb ((E.ok e C.toCxt v h2).e 2 (by decide)) C.nd hN (C.loc y hl) (sw_plain hp)
      · cases e with
        | lc elt tg src cond own => exact lc_asg C h1 h2
        | _ =>
          exfalso
          unfold chkE at h2
          cases v <;> simp_all [plainV]
    · cases h
  | .par is es, W, X, C, x, h => by
    unfold chkS at h
    split at h
    · simp only [Bool.and_eq_true] at h
      obtain ⟨⟨h1, h2⟩, h3⟩ := h
      exact os_par C.calm C.nd C.kind h1 h3 (chks_ns h2) (Es.ok es C.toCxt _ 0 (by decide) h2) fun ρ S ds S' e => es_len h2 e
    · cases h
  | .mv i j, W, X, C, x, h => by simp [chkS] at h
  | .app i e, W, X, C, x, h => by
    unfold chkS at h
    split at h
    · simp only [Bool.and_eq_true, decide_eq_true_eq] at h
      obtain ⟨⟨⟨rfl, h2⟩, h3⟩, h4⟩ := h
      refine os_app h2 h4 ?_ ((E.ok e C.toCxt _ h3).e 0 (by decide))
      intro z hz
      rcases List.mem_cons.mp hz with rfl | hz
      · exact chk_ns h3
      · cases hz
    · cases h
  | .ext i e, W, X, C, x, h => by
    unfold chkS at h
    split at h
    · simp only [Bool.and_eq_true, decide_eq_true_eq] at h
      obtain ⟨⟨⟨rfl, h2⟩, h3⟩, h4⟩ := h
      refine os_ext h2 h4 ?_ ((E.ok e C.toCxt _ h3).e 2 (by decide))
      intro z hz
      rcases List.mem_cons.mp hz with rfl | hz
      · exact chk_ns h3
      · cases hz
    · cases h
  | .pop t i, W, X, C, x, h => by
    unfold chkS at h
    split at h
    · rename_i tg y p m q r q2
      simp only [Bool.and_eq_true, decide_eq_true_eq] at h
      obtain ⟨⟨⟨rfl, h2⟩, h3⟩, h4⟩ := h
      have hg := pg_of C.K C.calm C.nd rfl C.loc h3
      cases tg with
      | Name a b => exact os_pop h2 h4 hg sw_name rfl
      | Tuple a b c => exact os_pop h2 h4 hg (sw_tup fun _ _ _ e => nomatch e) rfl
      | _ => cases t <;> cases h3
    · cases h
  | .setix i k e, W, X, C, x, h => by
    unfold chkS at h
    split at h
    · simp only [Bool.and_eq_true] at h
      obtain ⟨⟨⟨⟨h1, h2⟩, h3⟩, h4⟩, h5⟩ := h
      exact os_setix h1 h5 h4 ((E.ok k C.toCxt _ h2).e 0 (by decide)) ((E.ok e C.toCxt _ h3).e 0 (by decide))
    · cases h
  | .setst i k e, W, X, C, x, h => by
    unfold chkS at h
    split at h
    · simp only [Bool.and_eq_true] at h
      obtain ⟨⟨⟨⟨h1, h2⟩, h3⟩, h4⟩, h5⟩ := h
      exact os_setst h1 h5 h4 ((E.ok k C.toCxt _ h2).e 0 (by decide)) ((E.ok e C.toCxt _ h3).e 0 (by decide))
    · cases h
  | .setf i f e, W, X, C, x, h => by
    unfold chkS at h
    split at h
    · simp only [Bool.and_eq_true, decide_eq_true_eq] at h
      obtain ⟨⟨⟨rfl, h2⟩, h3⟩, h4⟩ := h
      exact os_setf C.K C.fx.fl C.fx.cls h2 h4 ((E.ok e C.toCxt _ h3).e 0 (by decide))
    · cases h
  | .expr e, W, X, C, x, h => by
    unfold chkS at h
    split at h
    · rw [Bool.and_eq_true] at h
      exact os_expr h.2 ((E.ok e C.toCxt _ h.1).e 0 (by decide))
    · cases h
  | .ret e, W, X, C, x, h => by
    unfold chkS at h
    split at h
    · exact os_ret ((E.ok e C.toCxt _ h).e 0 (by decide))
    · cases h
  | .retb i, W, X, C, x, h => by
    unfold chkS at h
    split at h
    · exact os_retb h
    · cases h
  | .retf e, W, X, C, x, h => by
    unfold chkS at h
    split at h
    · exact os_retf ((E.ok e C.toCxt _ h).e 2 (by decide))
    · cases h
  | .raise c z, W, X, C, x, h => by
    unfold chkS at h
    split at h
    · simp only [Bool.and_eq_true, decide_eq_true_eq] at h
      obtain ⟨⟨⟨h1, rfl⟩, h3⟩, rfl⟩ := h
      exact os_raise C h1 h3
    · cases h
  | .ite c a b, W, X, C, x, h => by
    unfold chkS at h
    split at h
    · simp only [Bool.and_eq_true] at h
      exact os_if (E.ok c C.toCxt _ h.1.1).t (Ss.ok a C _ h.1.2) (Ss.ok b C _ h.2)
    · cases h
  | .for_ t s body kill, W, X, C, x, h => by
    unfold chkS at h
    split at h
    · simp only [Bool.and_eq_true] at h
      obtain ⟨⟨⟨h1, h2⟩, h3⟩, h4⟩ := h
      exact os_for C.po C.calm (Src.ok s C.toCxt _ _ 0 (by decide) h2) (pg_of C.K C.calm C.nd rfl C.loc h1) (Ss.ok body C _ h3) (noSet_fold h4)
    · cases h
  | .while_ c body kill, W, X, C, x, h => by
    unfold chkS at h
    split at h
    · rw [Bool.and_eq_true] at h
      exact os_while C.po (E.ok c C.toCxt _ h.1).t (Ss.ok body C _ h.2)
    · cases h
  | .told body c1 s1 c2 i f s2, W, X, C, x, h => by
    unfold chkS at h
    split at h
    · simp only [Bool.and_eq_true, decide_eq_true_eq] at h
      obtain ⟨⟨⟨⟨⟨⟨⟨⟨⟨⟨⟨⟨⟨h1, h2⟩, h3⟩, rfl⟩, h5⟩, rfl⟩, h7⟩, rfl⟩, rfl⟩, rfl⟩, rfl⟩, h12⟩, h13⟩, h14⟩ := h
      exact os_told C (fun {W' X'} C' e1 e2 => Ss.ok body C' _ (by rw [e1, e2]; exact h1)) h2 h3 h5 h7 h12 h13 h14
    · cases h
  | .asgd i, W, X, C, x, h => by
    unfold chkS at h
    split at h
    · obtain ⟨hN, hl⟩ := nmB_of h
      exact os_asgd C.nd hN (C.loc _ hl)
    · cases h
  | .asgd1 i k e, W, X, C, x, h => by
    unfold chkS at h
    split at h
    · rw [Bool.and_eq_true, Bool.and_eq_true] at h
      obtain ⟨⟨h1, h2⟩, h3⟩ := h
      obtain ⟨hN, hl⟩ := nmB_of h1
      exact os_asgd1 C.hu C.nd hN (C.loc _ hl) ((E.ok k C.toCxt _ h2).e 0 (by decide)) ((E.ok e C.toCxt _ h3).e 0 (by decide))
    · cases h
  | .putd i k e, W, X, C, x, h => by
    unfold chkS at h
    split at h
    · simp only [Bool.and_eq_true] at h
      obtain ⟨⟨⟨⟨h1, h2⟩, h3⟩, h4⟩, h5⟩ := h
      exact os_putd C.hu h1 h5 h4 ((E.ok k C.toCxt _ h2).e 0 (by decide)) ((E.ok e C.toCxt _ h3).e 0 (by decide))
    · cases h
  | .frzd i, W, X, C, x, h => by simp [chkS] at h
  | .frz i, W, X, C, x, h => by simp [chkS] at h
  | .pass, W, X, C, x, h => by
    unfold chkS at h
    split at h
    · exact os_pass
    · cases h
theorem Ss.ok : ∀ (ss : Ss) {W : XK} {X : Cx} (C : CxtS w nm T n W X) (l : List Stmt), chkSs nm X.N X.env.scope ss l = true → PSs X l (tS w W (ss.den (gAt T n)))
  | .nil, W, X, C, l, h => by
    simp only [chkSs, List.isEmpty_iff] at h
    subst h
    exact os_nil
  | .cons s ss, W, X, C, l, h => by
    unfold chkSs at h
    split at h
    · exact oss_frz (Ss.ok ss C l h)
    · exact oss_frzd (Ss.ok ss C l h)
    · cases l with
      | nil => cases h
      | cons x xs =>
        dsimp only at h
        rw [Bool.and_eq_true] at h
        exact os_cons (S.ok s C x h.1) (Ss.ok ss C xs h.2)
end
end
end Pu

/-! ======== Pu18 ======== -/
/-! Defs: each keeps its promise, by induction on the nesting of calls. -/
namespace Pu
open PySem PySem.Spec PyProof.Rows L2
/-! ### where the instance in the making lies does not matter to data -/
section
variable {w : Wd} {x y : Addr} {ps : Option Addr} {H H' : Hp}
mutual
theorem Rep.at : ∀ {d : D} {v : V}, Rep (w.at x) ps H v d → Rep (w.at y) ps H v d
  | .non, _, h => by cases h; exact .non
  | .bl _, _, h => by cases h; exact .bl _
  | .int _, _, h => by cases h; exact .int _
  | .str _, _, h => by cases h; exact .str _
  | .tup ds, _, h => by
    cases h with
    | tup h1 h2 => exact .tup h1 (RepAll.at h2)
  | .lst ds, _, h => by
    cases h with
    | lst h1 h2 => exact .lst h1 (RepAll.at h2)
  | .fn k, _, h => by cases h; exact Rep.fn (w := w.at y) k
  | .ins c ds, _, h => by
    cases h with
    | ins h0 h1 h2 h3 => exact Rep.ins (w := w.at y) h0 h1 h2 (RepAll.at h3)
  | .st, _, h => by
    cases h with
    | st e => exact .st e
  | .scr ds, _, h => by
    cases h with
    | scr h1 h2 => exact .scr h1 (RepAll.at h2)
  | .dic ks ds, _, h => by
    cases h with
    | dic h1 h2 h3 => exact .dic h1 h2 (RepAll.at h3)
theorem RepAll.at : ∀ {ds : List D} {vs : List V}, RepAll (w.at x) ps H vs ds → RepAll (w.at y) ps H vs ds
  | [], _, h => by cases h; exact .nil
  | d :: ds, _, h => by
    cases h with
    | cons h1 h2 => exact .cons (Rep.at h1) (RepAll.at h2)
end
theorem StOk.at {S : Sx} (h : StOk (w.at x) ps S H) : StOk (w.at y) ps S H := by
  match ps, S, h with
  | none, none, _ => trivial
  | some p, some ds, ⟨vs, h, r⟩ => exact ⟨vs, h, r.at⟩
theorem ExcOk.at {c : Nat} {p : Option D} {dx : Option Addr} (h : ExcOk (w.at x) ps c p dx H) : ExcOk (w.at y) ps c p dx H := by
  have h' : (match w.pay c with
    | none => True
    | some f => ∃ dd v d, dx = some dd ∧ p = some d ∧ H dd = some (.xd [(f, v)]) ∧ Rep (w.at x) ps H v d) := h
  show (match w.pay c with
    | none => True
    | some f => ∃ dd v d, dx = some dd ∧ p = some d ∧ H dd = some (.xd [(f, v)]) ∧ Rep (w.at y) ps H v d)
  cases e : w.pay c with
  | none => trivial
  | some f =>
    rw [e] at h'
    obtain ⟨dd, v, d, h1, h2, h3, h4⟩ := h'
    exact ⟨dd, v, d, h1, h2, h3, h4.at⟩
end
/-! ### what stands of the text -/
/-- a def's tree says what its term says -/
structure FnD (w : Wd) (nm : Nm) (f : Fn) (a : Addr) : Prop where
  ex : ∃ (N ps : List Str) (x qual : Str) (params : Arguments) (body : List Stmt) (scope : Scope) (dvs : List V) (fd : FuncData), FunD w.K x qual params body scope dvs [] a fd ∧ FnScope N ps scope ∧ ps.length = f.np ∧ N.length = f.ns ∧ chkSs nm N scope f.body body = true ∧ Binds w.K fd ps [] ∧ ∀ i, f.df = some i → ∃ us, Vals [V.int i] us ∧ Binds w.K fd ps us
structure Fs (w : Wd) (nm : Nm) (T : Tab) (mg : Str → Option Value) : Prop where
  blt : ∀ x ∈ bltNames, mg x = none
  cls : ∀ c < w.nc, ClsF w c
  mcl : ∀ c < w.nc, mg (nm.cl c) = some (.ref (w.ca c))
  mfn : ∀ k, nm.top k = true → mg (nm.fn k) = some (.ref (w.fa k))
  gi : ∀ k < nm.gk, ∃ t, mg (nm.gi k) = some (.int (T.gint k) t)
  fl : T.flds = w.fl
  nc : nm.nc = w.nc
  fb : ∀ k, (∃ fd ps, Binds w.K fd ps []) ∧ PySem.W.keepIn w.K (.ref (w.fa k)) = true
  fn : ∀ k f, T.fns k = some f → FnD w nm f (w.fa k)
  mkr : ∀ c < w.nc, Mk w.K (w.ca c) (w.fa (T.ini c))
  ex : ∀ c, nm.ex c = true → ExF w c
  mex : ∀ c, nm.ex c = true → mg (nm.cl c) = some (.ref (w.ca c))
  exm : ∀ c c', nm.ex c = true → nm.ex c' = true → PySem.W.exmOne w.K (.ref (w.ca c)) (.ref (w.ca c')) = some (c == c')
  pay : w.pay = nm.pay
  rs : ∀ (P : Program) (wo : World) (base : Heap) (c : Nat), nm.ex c = true → RaiseOk w nm P wo mg base c
  eq : ∀ c < w.nc, ∀ f, T.eqf c = some f → EqF w (w.fa f) c
  mdf : ∀ c i, nm.df c = some i → ∃ fn, T.fns (T.ini c) = some fn ∧ fn.df = some i
theorem Fs.at {w : Wd} {nm : Nm} {T : Tab} {mg : Str → Option Value} (F : Fs w nm T mg) (x : Addr) : Fs (w.at x) nm T mg :=
  ⟨F.blt, fun c h => ⟨(F.cls c h).cl, (F.cls c h).na, (F.cls c h).ha, (F.cls c h).hn, (F.cls c h).htk, (F.cls c h).hm, (F.cls c h).k1, (F.cls c h).k2, (F.cls c h).k3⟩, F.mcl, F.mfn, F.gi, F.fl, F.nc, F.fb, fun k f h => ⟨(F.fn k f h).ex⟩, F.mkr, fun c h => ⟨(F.ex c h).ga, (F.ex c h).gg, (F.ex c h).exC, (F.ex c h).hdC, (F.ex c h).noN⟩, F.mex, F.exm, F.pay, F.rs, fun c h f e => ⟨(F.eq c h f e).eq, (F.eq c h f e).fn, (F.eq c h f e).ne, (F.eq c h f e).ob⟩, F.mdf⟩
section
variable {w : Wd} {nm : Nm} {T : Tab} {P : Program} {wo : World} {mg : Str → Option Value} {base : Heap} {n : Nat}
theorem startD_len {ns : Nat} {ds : List D} (h : ds.length ≤ ns) : (startD ns ds).length = ns := by
  unfold startD
  rw [List.length_append, List.length_map, List.length_replicate]
  omega
theorem startD_slot {ps : Option Addr} {H0 H : Hp} {ns : Nat} : ∀ {vs : List V} {ds : List D}, RepAll w ps H vs ds → ∀ (i : Nat) (s : Sl), (ds.map Sl.v ++ List.replicate ns .un)[i]? = some s → SlOk w ps H0 H (vs.map some ++ List.replicate ns none)[i]? s
  | _, _, .nil, i, s, e => by
    rw [List.map_nil, List.nil_append, List.getElem?_replicate] at e
    split at e
    · cases e; trivial
    · cases e
  | _, _, .cons (v := v) r t, 0, s, e => by
    rw [List.map_cons, List.cons_append, List.getElem?_cons_zero] at e
    cases e
    exact ⟨v, rfl, r⟩
  | _, _, .cons r t, i + 1, s, e => by
    rw [List.map_cons, List.cons_append, List.getElem?_cons_succ] at e ⊢
    exact startD_slot t i s e
theorem startD_nobox {ns : Nat} {ds : List D} {i : Nat} {t : Sl} (o : t.own = true) : (startD ns ds)[i]? ≠ some t := fun e => by
  have h := List.mem_of_getElem? e
  unfold startD at h
  rcases List.mem_append.mp h with h | h
  · obtain ⟨_, _, e⟩ := List.mem_map.mp h
    subst e
    cases o
  · cases List.eq_of_mem_replicate h
    cases o
theorem env_start {ps : Option Addr} {H : Hp} {N : List Str} {vs : List V} {ds : List D} {ns : Nat} (r : RepAll w ps H vs ds) (hN : N.length = ns) (hl : ds.length ≤ ns) : EnvOk w ps H (startD ns ds) (L2.start N vs) H := by
  refine ⟨Keep.refl, ?_, ?_, fun i j p d1 d2 e1 _ o1 => absurd e1 (startD_nobox o1)⟩
  · rw [startD_len hl]
    unfold L2.start
    rw [List.length_append, List.length_map, List.length_replicate, hN, r.length]
    omega
  · unfold startD L2.start
    rw [hN, r.length]
    exact startD_slot r
theorem run_f (k : Nat) (ds : List D) (S : Sx) : run T (n + 1) false k ds S = (match T.fns k with
      | some f => if ds.length = f.np then endFn (T.fr k) (f.body.den (gAt T n) (startD f.ns ds) S) else .stuck
      | none => .stuck) := rfl
theorem run_i (k : Nat) (ds : List D) (S : Sx) : run T (n + 1) true k ds S = (match T.fns (T.ini k) with
      | some f => if ds.length + 1 = f.np then endIni k (T.flds k) (f.body.den (gAt T n) (.o k [] :: startD (f.ns - 1) ds) S) else .stuck
      | none => .stuck) := rfl
theorem fx_of (F : Fs w nm T mg) (hf : ∀ k, FnF w T n P wo mg base k) (hi : ∀ c < w.nc, IniF w T n P wo mg base c) : Fx w nm T n P wo mg base :=
  ⟨F.blt, F.cls, F.mcl, hi, hf, F.mfn, F.gi, F.fl, F.ex, F.mex, F.exm, F.pay, F.rs P wo base, F.nc, F.eq, F.mdf⟩
theorem cxt_of {E : XK} {N : List Str} {qual : Str} {scope : Scope} {f : Addr} {cdv : Value} {A : Around} {outer : List Env} {s : Shared} {H : Hp} {ps : List Str} (fx : Fx w nm T n P wo mg base) (S : FnScope N ps scope) (hr : Room (lev n + 3) (A.deeper (envOfC qual scope s.heap.objs.size f cdv))) :
    CxtS w nm T n E (cxOf (L2.CX P wo) P wo w.K mg base N qual scope f cdv A outer s H E) :=
  ⟨⟨rfl, rfl, S.nd, hr, takes_of rfl rfl rfl rfl, fx⟩, passes_of rfl, fun _ => rfl, S.kind, rfl, rfl⟩
theorem fn_step (F : Fs w nm T mg) (fx : Fx w nm T n P wo mg base) (k : Nat) : FnF w T (n + 1) P wo mg base k := by
  obtain ⟨⟨fd0, ps0, hb0⟩, kp⟩ := F.fb k
  cases hk : T.fns k with
  | none =>
    have no : ∀ vs H Q E, spF w T (n + 1) k vs H Q E → False := fun vs H Q E ⟨ps, S, ds, _, _, q⟩ => by
      have e : run T (n + 1) false k ds S = .stuck := by
        rw [run_f, hk]
      rw [e] at q
      exact q
    exact ⟨⟨fd0, ps0, ⟨fun vs H Q E h => (no vs H Q E h).elim, fun A outer s H args us vs Q E _ _ _ _ h => (no vs H Q E h).elim⟩, hb0⟩, kp⟩
  | some f =>
    obtain ⟨N, pl, x, qual, params, body, scope, dvs, fd, FD, S, h1, h2, h3, hb, _⟩ := (F.fn k f hk).ex
    have un : ∀ ds S0, run T (n + 1) false k ds S0 = if ds.length = f.np then endFn (T.fr k) (f.body.den (gAt T n) (startD f.ns ds) S0) else .stuck := fun ds S0 => by
      rw [run_f, hk]
    have le : f.np ≤ f.ns := by
      have := congrArg List.length S.pre
      rw [List.length_take] at this
      omega
    have ln : ∀ vs H Q E, spF w T (n + 1) k vs H Q E → vs.length = pl.length := fun vs H Q E ⟨ps, S0, ds, r, _, q⟩ => by
      rw [un] at q
      by_cases hl : ds.length = f.np
      · rw [r.length, hl, h1]
      · rw [if_neg hl] at q
        exact q.elim
    refine ⟨⟨fd, pl, FD.ok (k := lev n + 3) S ln fun cdv A outer s H vs Q E hr h => ?_, hb⟩, kp⟩
    obtain ⟨ps, S0, ds, r, st, q⟩ := h
    rw [un] at q
    by_cases hl : ds.length = f.np
    · rw [if_pos hl] at q
      refine ⟨_, Ss.ok f.body (cxt_of (E := E) fx S hr) body h3, ps, H, startD f.ns ds, S0, env_start r h2 (by omega), st, ?_⟩
      unfold endFn at q
      cases hd : f.body.den (gAt T n) (startD f.ns ds) S0 with
      | next ρ S1 =>
        rw [hd] at q
        dsimp only at q
        cases hfr : T.fr k with
        | true => rw [hfr] at q; exact q.elim
        | false =>
          rw [hfr] at q
          exact fun σ' H' k env st' => (show Ret w ps 0 Q .non S1 H from q) _ H' env.keep st' .non
      | ret fr d S1 =>
        rw [hd] at q
        dsimp only at q
        by_cases hfr : fr = T.fr k
        · rw [if_pos hfr] at q
          subst hfr
          exact fun v H' k st' r' => q v H' k st' r'
        · rw [if_neg hfr] at q
          exact q.elim
      | exc c p S1 => rw [hd] at q; exact q
      | stuck => rw [hd] at q; exact q
    · rw [if_neg hl] at q
      exact q.elim
theorem ini_step (F : Fs w nm T mg) (fx : ∀ x, Fx (w.at x) nm T n P wo mg base) {y : Addr} (c : Nat) (hc : c < w.nc) : IniF (w.at y) T (n + 1) P wo mg base c := by
  obtain ⟨⟨fd0, ps0, hb0⟩, kp⟩ := F.fb (T.ini c)
  have M := F.mkr c hc
  cases hk : T.fns (T.ini c) with
  | none =>
    have no : ∀ vs H Q E, spI (w.at y) T (n + 1) c vs H Q E → False := fun vs H Q E ⟨ps, S, ds, _, _, _, _, _, _, _, _, _, _, _, q⟩ => by
      have e : run T (n + 1) true c ds S = .stuck := by
        rw [run_i, hk]
      rw [e] at q
      exact q
    exact ⟨⟨_, fd0, ps0, M, ⟨fun vs H Q E h => (no vs H Q E h).elim, fun A outer s H args us vs Q E _ _ _ _ h => (no vs H Q E h).elim⟩, hb0, fun fn i h => by rw [hk] at h; cases h⟩⟩
  | some f =>
    obtain ⟨N, pl, x, qual, params, body, scope, dvs, fd, FD, S, h1, h2, h3, hb, hdf⟩ := (F.fn _ f hk).ex
    have un : ∀ ds S0, run T (n + 1) true c ds S0 = if ds.length + 1 = f.np then endIni c (T.flds c) (f.body.den (gAt T n) (.o c [] :: startD (f.ns - 1) ds) S0) else .stuck := fun ds S0 => by
      rw [run_i, hk]
    have le : f.np ≤ f.ns := by
      have := congrArg List.length S.pre
      rw [List.length_take] at this
      omega
    have ln : ∀ vs H Q E, spI (w.at y) T (n + 1) c vs H Q E → vs.length = pl.length := fun vs H Q E ⟨ps, S0, ds, x, dx, us, H1, e, _, _, _, _, r, _, q⟩ => by
      rw [un] at q
      by_cases hl : ds.length + 1 = f.np
      · rw [e, List.length_cons, r.length, hl, h1]
      · rw [if_neg hl] at q
        exact q.elim
    refine ⟨⟨_, fd, pl, M, FD.ok (k := lev n + 3) S ln fun cdv A outer s H vs Q E hr h => ?_, hb, fun fn i e1 e2 => by rw [hk] at e1; cases e1; exact hdf i e2⟩⟩
    obtain ⟨ps, S0, ds, a, dx, us, H1, rfl, n1, n2, n3, rfl, r, st, q⟩ := h
    rw [un] at q
    by_cases hl : ds.length + 1 = f.np
    · rw [if_pos hl] at q
      have na : upd H1 dx (.own a) a = none := by rw [upd_ne (fun z => n3 z.symm)]; exact n1
      have kp : Keep ps H1 (upd (upd H1 dx (.own a)) a (.ins (w.ca c) dx [])) := (Keep.upd n2).trans (Keep.upd na)
      have ra : RepAll (w.at a) ps (upd (upd H1 dx (.own a)) a (.ins (w.ca c) dx [])) us ds := r.at.mono kp.kd
      refine ⟨_, Ss.ok f.body (cxt_of (E := E) (fx a) S hr) body h3, ps, H1, .o c [] :: startD (f.ns - 1) ds, S0, ⟨kp, ?_, ?_, ?_⟩, (st.at (y := a)).upd n2 |>.upd na, ?_⟩
      · rw [List.length_cons, startD_len (by omega)]
        unfold L2.start
        rw [List.length_append, List.length_map, List.length_replicate, List.length_cons, r.length, h2]
        omega
      · intro i s e
        unfold L2.start
        cases i with
        | zero =>
          rw [List.getElem?_cons_zero] at e
          cases e
          exact ⟨hc, a, dx, [], rfl, upd_same, rfl, .nil, n1, Nat.zero_le _, rfl⟩
        | succ i =>
          rw [List.getElem?_cons_succ] at e
          rw [List.map_cons, List.cons_append, List.getElem?_cons_succ, List.length_cons, h2, show f.ns - (us.length + 1) = f.ns - 1 - ds.length by rw [r.length]; omega]
          exact startD_slot ra i s e
      · intro i j p d1 d2 e1 _ o1
        cases i with
        | zero => rw [List.getElem?_cons_zero] at e1; cases e1; cases o1
        | succ i => rw [List.getElem?_cons_succ] at e1; exact absurd e1 (startD_nobox o1)
      · unfold endIni at q
        cases hd : f.body.den (gAt T n) (.o c [] :: startD (f.ns - 1) ds) S0 with
        | next ρ S1 =>
          rw [hd] at q
          dsimp only at q
          intro σ' H' kd env st'
          split at q
          · rename_i c' fs e
            split at q
            · rename_i hfl
              obtain ⟨hc', b, dx', vfs, s1, s2, s3, s4, s5, s6, s7⟩ := env.slot 0 _ e
              have hb : b = a := s7
              subst hb
              refine (show ∀ H', Keep ps H1 H' → StOk (w.at y) ps S1 H' → Rep (w.at y) ps H' (.ref b) (.ins c' (fs.map (·.2))) → Q .non H' from q) H' env.keep st'.at ?_
              obtain ⟨rfl, hfl⟩ := hfl
              have hflds : T.flds c' = w.fl c' := congrFun F.fl c'
              exact Rep.ins (w := w.at y) hc' s2 (by rw [s3, hfl, hflds]) s4.at
            · exact q.elim
          · exact q.elim
        | ret fr d S1 => rw [hd] at q; exact q.elim
        | exc c2 p S1 =>
          rw [hd] at q
          exact fun dx H' k st' x => q dx H' k st'.at x.at
        | stuck => rw [hd] at q; exact q
    · rw [if_neg hl] at q
      exact q.elim
theorem fx_all (F : Fs w nm T mg) : ∀ (n : Nat) (x : Addr), Fx (w.at x) nm T n P wo mg base
  | 0, x => fx_of (F.at x) (fun k => by
      obtain ⟨⟨fd0, ps0, hb0⟩, kp⟩ := F.fb k
      exact ⟨⟨fd0, ps0, ⟨fun vs H Q E ⟨_, _, _, _, _, q⟩ => q.elim, fun A outer s H args us vs Q E _ _ _ _ ⟨_, _, _, _, _, q⟩ => q.elim⟩, hb0⟩, kp⟩) fun c hc => by
      obtain ⟨⟨fd0, ps0, hb0⟩, kp⟩ := F.fb (T.ini c)
      cases hk : T.fns (T.ini c) with
      | none => exact ⟨⟨_, fd0, ps0, F.mkr c hc, ⟨fun vs H Q E ⟨_, _, _, _, _, _, _, _, _, _, _, _, _, _, q⟩ => q.elim, fun A outer s H args us vs Q E _ _ _ _ ⟨_, _, _, _, _, _, _, _, _, _, _, _, _, _, q⟩ => q.elim⟩, hb0, fun fn i h => by rw [hk] at h; cases h⟩⟩
      | some f =>
        obtain ⟨_, pl, _, _, _, _, _, _, fd, _, _, _, _, _, hb, hdf⟩ := (F.fn _ f hk).ex
        exact ⟨⟨_, fd, pl, F.mkr c hc, ⟨fun vs H Q E ⟨_, _, _, _, _, _, _, _, _, _, _, _, _, _, q⟩ => q.elim, fun A outer s H args us vs Q E _ _ _ _ ⟨_, _, _, _, _, _, _, _, _, _, _, _, _, _, q⟩ => q.elim⟩, hb, fun fn i e1 e2 => by rw [hk] at e1; cases e1; exact hdf i e2⟩⟩
  | n + 1, x => fx_of (F.at x) (fun k => fn_step (F.at x) (fx_all F n x) k) fun c hc => ini_step F (fx_all F n) c hc
end
end Pu

/-! ======== Pu19 ======== -/
/-! The law's def; the text's facts from the head. -/
namespace Pu
open PySem PySem.Spec PyProof.Rows L2
section
variable {w : Wd} {nm : Nm} {T : Tab} {P : Program} {wo : World} {mg : Str → Option Value} {base : Heap} {n : Nat}
mutual
theorem Rep.ps {p : Addr} {H : Hp} : ∀ {d : D} {v : V}, Rep w none H v d → Rep w (some p) H v d
  | .non, _, h => by cases h; exact .non
  | .bl _, _, h => by cases h; exact .bl _
  | .int _, _, h => by cases h; exact .int _
  | .str _, _, h => by cases h; exact .str _
  | .tup ds, _, h => by
    cases h with
    | tup h1 h2 => exact .tup h1 (RepAll.ps h2)
  | .lst ds, _, h => by
    cases h with
    | lst h1 h2 => exact .lst h1 (RepAll.ps h2)
  | .fn k, _, h => by cases h; exact .fn k
  | .ins c ds, _, h => by
    cases h with
    | ins h0 h1 h2 h3 => exact .ins h0 h1 h2 (RepAll.ps h3)
  | .st, _, h => by
    cases h with
    | st e => cases e
  | .scr ds, _, h => by
    cases h with
    | scr h1 h2 => exact .scr h1 (RepAll.ps h2)
  | .dic ks ds, _, h => by
    cases h with
    | dic h1 h2 h3 => exact .dic h1 h2 (RepAll.ps h3)
theorem RepAll.ps {p : Addr} {H : Hp} : ∀ {ds : List D} {vs : List V}, RepAll w none H vs ds → RepAll w (some p) H vs ds
  | [], _, h => by cases h; exact .nil
  | d :: ds, _, h => by
    cases h with
    | cons h1 h2 => exact .cons (Rep.ps h1) (RepAll.ps h2)
end
/-- what the law is to do: its state is made, the rest answers True -/
def LawDoes (T : Tab) (n kst ist ns : Nat) (rest : Ss) : Prop := ∀ zs : List Int, zs.length ≤ 63 → ∃ ds S', run T n false kst [.scr (zs.map D.int)] none = .ok (.lst ds) none ∧
  rest.den (gAt T n) ((startD ns [.scr (zs.map D.int)]).set ist (.v .st)) (some ds) = .ret false (.bl true) S'
def spLaw (K : PySem.W.Frag) : Sp := fun vs H Q _ => ∃ (a : Addr) (ns : List Int), vs = [.ref a] ∧ ns.length ≤ 63 ∧ Only H ∧ SqL K H a (ns.map V.int) ∧ ∀ H', Q (.bl true) H'
theorem ints_rep {ps : Option Addr} {H : Hp} : ∀ ns : List Int, RepAll w ps H (ns.map V.int) (ns.map D.int)
  | [] => .nil
  | n :: ns => .cons (.int n) (ints_rep ns)
theorem ints_len {ns : List Int} : (ns.map V.int).length = ns.length := List.length_map ..
theorem law_ok (F : Fs w nm T mg) {x qual : Str} {params : Arguments} {first : Stmt} {body : List Stmt} {scope : Scope} {N : List Str} {x₀ : Str} {kst ist : Nat} {rest : Ss} {f : Addr} {fd : FuncData} (FD : FunD w.K x qual params (first :: body) scope [] [] f fd) (SC : FnScope N [x₀] scope)
    (hi : ist < N.length) (h0 : 0 < ist) (hfr : T.fr kst = true) (hc1 : chkS nm N scope (.asgb ist (.call kst (.cons (.var 0) .nil))) first = true) (hc2 : chkSs nm N scope rest body = true) (does : LawDoes T n kst ist N.length rest) :
    FnOk P wo w.K mg base CX0 (lev n + 4) f fd [x₀] (spLaw w.K) := by
  refine FD.ok (k := lev n + 3) SC (fun vs H Q E ⟨a, ns, e, _⟩ => by rw [e]; rfl) fun cdv A outer s H vs Q E hr h => ?_
  obtain ⟨a, ns, rfl, hn, only, sq, hQ⟩ := h
  have fx := fx_all (P := P) (wo := wo) (base := base) F n w.me
  have C : CxtS w nm T n E0 (cxOf CX0 P wo w.K mg base N qual scope f cdv A outer s H E).nox := ⟨⟨rfl, rfl, SC.nd, hr, takes0, fx⟩, PassesOwn.never, fun _ => rfl, SC.kind, rfl, rfl⟩
  refine ⟨_, PSs.nox (pss_cons (S.ok (.asgb ist (.call kst (.cons (.var 0) .nil))) C first hc1) (Ss.ok rest C body hc2)), ?_⟩
  have sc : SqS w.K H a (ns.map V.int) := by
    rcases sq with (z | z) | z
    · rcases only a with q | ⟨o, xs, q⟩
      · rw [q] at z; cases z
      · rw [q] at z; cases z
    · exact .inl z
    · exact .inr z
  obtain ⟨ds, S', e1, e2⟩ := does ns hn
  have r0 : RepAll w none H [.ref a] [.scr (ns.map D.int)] := .cons (.scr sc (ints_rep ns)) .nil
  have hns : 1 ≤ N.length := by omega
  refine ⟨none, H, startD N.length [.scr (ns.map D.int)], none, env_start r0 rfl hns, trivial, ?_⟩
  have hd : (S.asgb ist (.call kst (.cons (.var 0) .nil))).den (gAt T n) (startD N.length [.scr (ns.map D.int)]) none = .next ((startD N.length [.scr (ns.map D.int)]).set ist (.b ds)) none := by
    show R.toS (onlyNew (if T.fr kst = true then 0 else 2) (R.bind (R.bind (R.ok (.scr (ns.map D.int)) none) fun d S => R.bind (R.ok [] S) fun ds S => .ok (d :: ds) S) fun ds S => run T n false kst ds S)) _ = _
    rw [hfr, if_pos rfl]
    show R.toS (run T n false kst [.scr (ns.map D.int)] none) _ = _
    rw [e1]
    rfl
  rw [hd]
  intro σ' H' k env st
  have hl0 : (startD N.length [.scr (ns.map D.int)]).length = N.length := startD_len hns
  have hb : ((startD N.length [.scr (ns.map D.int)]).set ist (.b ds))[ist]? = some (.b ds) := List.getElem?_set_self (by rw [hl0]; exact hi)
  obtain ⟨p, us, es, hp, ru, n0, np⟩ := env.box hb
  refine ⟨some p, H', (startD N.length [.scr (ns.map D.int)]).set ist (.v .st), some ds, ⟨Keep.refl, ?_, fun i sl e => ?_, fun i j q d1 d2 e _ o1 => ?_⟩, ⟨us, hp, ru.ps⟩, ?_⟩
  · rw [env.len, List.length_set, List.length_set]
  · by_cases hii : ist = i
    · subst hii
      rw [List.getElem?_set_self (by rw [hl0]; exact hi)] at e
      cases e
      exact ⟨.ref p, es, .st rfl⟩
    · rw [List.getElem?_set_ne hii] at e
      have z := env.slot i sl (by rw [List.getElem?_set_ne hii]; exact e)
      cases sl with
      | un => trivial
      | v d => obtain ⟨v, a1, b1⟩ := z; exact ⟨v, a1, b1.ps⟩
      | b _ => exact absurd e (startD_nobox rfl)
      | dd _ => exact absurd e (startD_nobox rfl)
      | o c fs =>
        exfalso
        have h := List.mem_of_getElem? e
        unfold startD at h
        rcases List.mem_append.mp h with h | h
        · obtain ⟨_, _, e⟩ := List.mem_map.mp h
          cases e
        · cases List.eq_of_mem_replicate h
  · exfalso
    by_cases hii : ist = i
    · subst hii
      rw [List.getElem?_set_self (by rw [hl0]; exact hi)] at e
      cases e
      cases o1
    · rw [List.getElem?_set_ne hii] at e
      exact startD_nobox o1 e
  · rw [e2]
    intro v H2 k2 st2 r2
    have r2' : Rep w (some p) H2 v (.bl true) := r2
    cases r2'
    exact hQ H2
end
end Pu

/-! ======== Pu20 ======== -/
/-! Exceptions of the text. -/
namespace Pu
open PySem PySem.Spec PyProof.Rows L2
section
variable {w : Wd} {nm : Nm} {mg : Str → Option Value}
theorem raise_plain {P : Program} {wo : World} {base : Heap} {c : Nat} (q : PySem.W.excIn w.K (w.ca c) He.veBase "ValueError.__new__" = true) (kC : PySem.W.keepIn w.K (.ref (w.ca c)) = true) (eC : PySem.W.subIn w.K (.ref (w.ca c)) (.type "BaseException") = some true)
    (tC : PySem.W.typeIn w.K (.ref (w.ca c)) = some (.type "type")) (hm : mg (nm.cl c) = some (.ref (w.ca c))) (hp : w.pay c = none) : RaiseOk w nm P wo mg base c := by
  rintro X rfl rfl hK rfl rfl hr hg z j p p2 pos
  obtain ⟨g1, g2⟩ := gl_of hg
  have h := pmk_own (m := z) (j := j) (p := p) (p2 := p2) (pos := pos) PySem.F.excBase_ValueError (by rw [hK]; exact q) hm (by rw [hK]; exact kC) (raises_own (by rw [hK]; exact eC) (by rw [hK]; exact tC)) g1 g2
  exact fun pins s σ H Q I h2 => h pins s σ H Q I (h2 none H Keep.refl (by rw [hp]; trivial))
/-! ### an exception that bears a datum: def __init__(self, f): Base.__init__(self, f); self.f = f -/
def refB (B f : Str) (N : List Str) (sc : Scope) : List Stmt → Bool
  | [.Expr (.Call (.Attribute (.Name b _) i q) [.Name s1 _, .Name f1 _] [] r) _, .Assign [.Attribute (.Name s2 _) g _] (.Name f2 _) _] =>
    decide (b = B) && glB sc b && decide (i = ("__init__" : Str)) && slB N sc 0 s1 && slB N sc 1 f1 && slB N sc 0 s2 && decide (g = f) && slB N sc 1 f2 && (q.endLine == r.line)
  | _ => false
def spRef (K : PySem.W.Frag) (f : Str) : Sp := fun vs H Q _ => ∃ (a C : Addr) (y : V), vs = [.ref a, y] ∧ OexC K C ∧ PySem.W.findIn K (.ref C) f = some none ∧ H a = some (exo a C none) ∧ ∀ dx, H dx = none → dx ≠ a → Q .non (upd (upd H dx (exd dx [(f, y)])) a (exo a C (some dx)))
theorem pe_baseinit {X : Cx} {B : Str} {CB : Addr} {e : Expr} {es : List Expr} {ta : TA} {p1 p2 pos : Pos} {pl : Sem Bool} (hg : Gl X B) (hdb : (B == ("__debug__" : Str)) = false) (hm : X.mg B = some (.ref CB)) (gg : PySem.W.specialIn X.K (.ref CB) "__getattribute__" = some (some (.builtin "type.__getattribute__")))
    (rd : PySem.W.readsIn X.K CB (.type "type") = true) (fc : PySem.W.findCls X.K (.ref CB) (.type "type") "__init__" = some (.val (.builtin "ValueError.__init__"))) (ha : PA X (e :: es) ta)
    (hc : eval (.Call (.Attribute (.Name B p1) "__init__" p2) (e :: es) [] pos) X.env = (do
      let ov ← eval (.Name B p1) X.env
      standAt p2.atName
      let (f, first) ← holding [ov] (getMethod ov "__init__" pl)
      callWith pos f first (backTo pos (starEach (e :: es) X.env)) (backToKw pos (keywordEach [] X.env))))
    (he : starEach (e :: es) X.env = (false, eval e X.env) :: starEach es X.env) (hpl : (backTo pos (starEach es X.env)).any (·.1) = false) :
    PE X (.Call (.Attribute (.Name B p1) "__init__" p2) (e :: es) [] pos) (tVeI X.K ta) := by
  refine ⟨fun pins s σ H Q I h => ?_⟩
  refine PySem.W.methodCall_KW (ld_glob I hg hm ?_ hdb) hc
  refine PySem.W.method_cls I.kIn gg (PySem.W.cls_value I.kIn rd fc (by decide +kernel) ?_)
  show wpAny _ _ (callWith pos (Value.builtin "ValueError.__init__") [] (backTo pos (starEach (e :: es) X.env)) []) _ _ _
  refine PyProof.Rows.callWith_method1 (thn (ha.run pos pins _ σ H _ (I.tok _) h) fun us s1 ⟨vs, H1, I1, r1, a, C, ws, ev, hl, T, ea, q⟩ => ?_) he hpl
  subst ev
  cases r1 with
  | @cons _ u0 _ ur ra rw' =>
    obtain rfl : u0 = Value.ref a := ra
    have hlen : ur.length ≤ sizeLine := by
      rw [← Paired.length rw', sizeLine_eq]
      omega
    exact oinit_ok T I1 ea hlen fun s' J => ⟨.non, H1, J, rfl, q⟩
theorem fault_eval {s1 f1 : Str} {p q a b r : Pos} {env : Env} (hl : (q.endLine == r.line) = true) : eval (.Call (.Attribute (.Name "Fault" p) "__init__" q) [.Name s1 a, .Name f1 b] [] r) env = (do
      let ov ← eval (.Name "Fault" p) env
      standAt q.atName
      let (f, first) ← holding [ov] (getMethod ov "__init__" (do return (← importBound (.Name "Fault" p) env).getD true))
      callWith r f first (backTo r (starEach [.Name s1 a, .Name f1 b] env)) (backToKw r (keywordEach [] env))) := by
  have e : methodCallPos true (.Name "Fault" p) env q r = pure r := by
    unfold methodCallPos
    rw [hl]
    rfl
  show (eval (.Name "Fault" p) env >>= fun ov => standAt q.atName >>= fun _ => (holding [ov] (getMethod ov "__init__" (do return (← importBound (.Name "Fault" p) env).getD true)) >>= fun z => methodCallPos true (.Name "Fault" p) env q r >>= fun cp => callWith cp z.1 z.2 (backTo r (starEach [.Name s1 a, .Name f1 b] env)) (backToKw r (keywordEach [] env)))) = _
  rw [e]
  rfl
/-- what stands of the base class -/
structure BaseF (K : PySem.W.Frag) (mg : Str → Option Value) (B : Str) (CB : Addr) : Prop where
  mb : mg B = some (.ref CB)
  gg : PySem.W.specialIn K (.ref CB) "__getattribute__" = some (some (.builtin "type.__getattribute__"))
  rd : PySem.W.readsIn K CB (.type "type") = true
  fc : PySem.W.findCls K (.ref CB) (.type "type") "__init__" = some (.val (.builtin "ValueError.__init__"))
theorem ok_refi {P : Program} {wo : World} {base : Heap} {f : Str} {CB : Addr} (bf : BaseF w.K mg "Fault" CB) {x qual : Str} {params : Arguments} {body : List Stmt} {scope : Scope} {N ps : List Str} {fa : Addr} {fd : FuncData} (FD : FunD w.K x qual params body scope [] [] fa fd) (SC : FnScope N ps scope) (hps : ps.length = 2) (hN : N.length = 2)
    (hb : refB "Fault" f N scope body = true) : FnOk P wo w.K mg base CX0 1 fa fd ps (spRef w.K f) := by
  refine FD.ok (k := 0) SC (fun vs H Q E ⟨a, C, y, e, _⟩ => by rw [e, hps]; rfl) fun cdv A outer s H vs Q E hr h => ?_
  obtain ⟨a, C, y, rfl, T, hno, ea, hq⟩ := h
  unfold refB at hb
  split at hb
  · simp only [Bool.and_eq_true, decide_eq_true_eq] at hb
    obtain ⟨⟨⟨⟨⟨⟨⟨⟨rfl, g1⟩, rfl⟩, g3⟩, g4⟩, g5⟩, rfl⟩, g7⟩, g8⟩ := hb
    have sl : ∀ {i : Nat} {y : Str}, slB N scope i y = true → N[i]? = some y ∧ Vis scope y ∧ (y == ("__debug__" : Str)) = false ∧ (y == ("__classdict__" : Str)) = false := fun {i y} h =>
      sl_of (X := cxOf CX0 P wo w.K mg base N qual scope fa cdv A outer s H E) h
    obtain ⟨a1, a2, a3, a4⟩ := sl g3
    obtain ⟨b1, b2, b3, b4⟩ := sl g4
    obtain ⟨c1, c2, c3, c4⟩ := sl g5
    obtain ⟨d1, d2, d3, d4⟩ := sl g7
    obtain ⟨e1, e2⟩ := gl_of (X := cxOf CX0 P wo w.K mg base N qual scope fa cdv A outer s H E) g1
    have s0 : (L2.start N [V.ref a, y])[0]? = some (some (.ref a)) := rfl
    have s1 : (L2.start N [V.ref a, y])[1]? = some (some y) := rfl
    refine ⟨_, pss_cons (ps_expr (pe_baseinit (X := cxOf CX0 P wo w.K mg base N qual scope fa cdv A outer s H E) e1 e2 bf.mb bf.gg bf.rd bf.fc (pa_cons (pe_var a1 a2 a3 a4) (pa_cons (pe_var b1 b2 b3 b4) pa_nil)) (fault_eval g8) rfl rfl))
      (pss_one (ps_ost (pe_var c1 c2 c3 c4) (pe_var d1 d2 d3 d4))), ?_⟩
    refine ⟨.ref a, s0, y, s1, a, C, [y], rfl, by simp, T, ea, ?_⟩
    exact ⟨y, s1, .ref a, s0, a, C, rfl, T, hno, .inl ⟨ea, fun dx hn hne => hq dx hn hne⟩⟩
  · cases hb
theorem raise_ref {P : Program} {wo : World} {base : Heap} {c : Nat} {f : Str} {fI : Addr} {fd : FuncData} {ps : List Str} (T : OexC w.K (w.ca c)) (iC : PySem.W.findIn w.K (.ref (w.ca c)) "__init__" = some (some (.ref fI))) (tI : PySem.W.typeIn w.K (.ref fI) = some (.type "function")) (hno : PySem.W.findIn w.K (.ref (w.ca c)) f = some none)
    (F : FnOk P wo w.K mg base CX0 1 fI fd ps (spRef w.K f)) (hb : Binds w.K fd ps []) (hm : mg (nm.cl c) = some (.ref (w.ca c))) (hp : w.pay c = some f) : RaiseOk w nm P wo mg base c := by
  rintro X rfl rfl hK rfl rfl hr hg z j p p2 pos
  obtain ⟨g1, g2⟩ := gl_of hg
  have h := pmk_oex (X := X) (p := p) (pos := pos) (e := .Constant (.str z) j p2) (es := []) (by rw [hK]; exact T) (by rw [hK]; exact iC) (by rw [hK]; exact tI) (by rw [hK]; exact F) hr (by rw [hK]; exact hb) .nil pass0 g1 hm (pa_cons pe_str pa_nil) g2
  refine fun pins s σ H Q I h2 => h pins s σ H Q I ⟨by show 1 ≤ 1000; decide, fun a ha => ⟨a, w.ca c, .str z, rfl, T, hno, upd_same, fun dx hn hne => ⟨rfl, dx, [(f, .str z)], upd_same, ?_, ?_, ?_⟩⟩⟩
  · rw [upd_ne hne, upd_same]
  · rwa [upd_ne hne] at hn
  · refine h2 _ _ (fun b o e => .inl ?_) (by rw [hp]; exact ⟨dx, rfl, upd_same⟩)
    have nb : b ≠ a := fun z => by rw [z, ha] at e; cases e
    have nd : b ≠ dx := fun z => by rw [upd_ne hne, ← z, e] at hn; cases hn
    rw [upd_ne nd, del_ne nb, upd_ne nb, upd_ne nd, upd_ne nb]
    exact e
end
end Pu

/-! ======== Pu21 ======== -/
/-! The program's description; what the head tells makes the facts that the walk asks for. -/
namespace Pu
open PySem PySem.Spec PyProof.Rows L2
def plainArgs (p : Arguments) (ps : List Str) : Bool := (match p.posonlyargs with | [] => true | _ => false) && (match p.kwonlyargs with | [] => true | _ => false) && p.vararg.isNone && p.kwarg.isNone && decide (p.args.map (·.arg) = ps) && decide ps.Nodup
theorem fm_congr {α β : Type} {f g : α → Option β} : ∀ {l : List α}, (∀ n ∈ l, f n = g n) → l.filterMap f = l.filterMap g
  | [], _ => rfl
  | a :: l, h => by
    rw [List.filterMap_cons, List.filterMap_cons, h a List.mem_cons_self, fm_congr fun n hn => h n (List.mem_cons_of_mem _ hn)]
theorem zip_lookup_none {x : Str} : ∀ {ps : List Str} {us : List Value}, x ∉ ps → (ps.zip us).lookup x = none
  | [], _, _ => by simp
  | _ :: _, [], _ => by simp
  | p :: ps, u :: us, h => by
    have h1 : (x == p) = false := by
      rw [beq_eq_false_iff_ne]
      exact fun e => h (by rw [e]; exact List.mem_cons_self)
    rw [List.zip_cons_cons, List.lookup_cons, h1]
    exact zip_lookup_none fun m => h (List.mem_cons_of_mem _ m)
theorem lookup_all : ∀ {ps : List Str} {us : List Value}, us.length = ps.length → ps.filter (fun n => ((ps.zip us).lookup n).isNone) = [] := by
  intro ps us hl
  rw [List.filter_eq_nil_iff]
  have key : ∀ {ps : List Str} {us : List Value}, us.length = ps.length → ∀ x ∈ ps, ∃ v, (ps.zip us).lookup x = some v := by
    intro ps
    induction ps with
    | nil => intro us _ x hx; cases hx
    | cons p ps ih =>
      intro us hl x hx
      cases us with
      | nil => cases hl
      | cons u us =>
        rw [List.zip_cons_cons, List.lookup_cons]
        by_cases e : (x == p) = true
        · rw [e]; exact ⟨u, rfl⟩
        · have e' : (x == p) = false := by simpa using e
          rw [e']
          rcases List.mem_cons.mp hx with rfl | hx
          · simp at e
          · exact ih (by simpa using hl) x hx
  intro x hx
  obtain ⟨v, e⟩ := key hl x hx
  rw [e]
  simp
theorem lookup_self : ∀ {ps : List Str} {us : List Value}, ps.Nodup → us.length = ps.length → ps.filterMap (fun n => ((ps.zip us).lookup n).map (n, ·)) = ps.zip us
  | [], [], _, _ => rfl
  | [], _ :: _, _, h => by cases h
  | _ :: _, [], _, h => by cases h
  | p :: ps, u :: us, hn, hl => by
    rw [List.nodup_cons] at hn
    have h1 : ((p :: ps).zip (u :: us)).lookup p = some u := by
      rw [List.zip_cons_cons, List.lookup_cons]
      simp
    have h2 : ps.filterMap (fun n => (((p :: ps).zip (u :: us)).lookup n).map (n, ·)) = ps.filterMap (fun n => ((ps.zip us).lookup n).map (n, ·)) := by
      refine fm_congr fun n hm => ?_
      have e : (n == p) = false := by
        rw [beq_eq_false_iff_ne]
        exact fun e => hn.1 (by rw [← e]; exact hm)
      rw [List.zip_cons_cons, List.lookup_cons, e]
    rw [List.filterMap_cons, h1]
    show (p, u) :: ps.filterMap (fun n => (((p :: ps).zip (u :: us)).lookup n).map (n, ·)) = _
    rw [h2, lookup_self hn.2 (by simpa using hl)]
    rfl
theorem bind_plain {x qual : Str} {p : Arguments} {body : List Stmt} {scope : Scope} {ps : List Str} (h : plainArgs p ps = true) (kV doc pm : Value) (an : Option Addr) (cdv ct : Value) (us : List Value) (hl : us.length = ps.length) :
    bindArgs (PySem.W.fnOf x qual p body scope .none kV doc pm an cdv ct) ⟨us, []⟩ = pure (ps.zip us) := by
  obtain ⟨po, ar, va, ko, kd, kw, df⟩ := p
  unfold plainArgs at h
  simp only [Bool.and_eq_true, decide_eq_true_eq] at h
  obtain ⟨⟨⟨⟨⟨h1, h2⟩, h3⟩, h4⟩, h5⟩, h6⟩ := h
  cases po with
  | cons _ _ => cases h1
  | nil =>
  cases ko with
  | cons _ _ => cases h2
  | nil =>
  cases va with
  | some _ => cases h3
  | none =>
  cases kw with
  | some _ => cases h4
  | none =>
  have e0 : seqItems? (Value.none) = (pure none : Sem (Option (Array Value))) := rfl
  unfold bindArgs PySem.W.fnOf
  simp only [List.map_nil, List.nil_append, h5, List.forIn_nil, e0, pure_bind, Option.getD_none, List.zip_nil_right, List.length_nil, Nat.sub_zero, hl]
  rw [if_neg (by simp)]
  simp only [List.drop_nil, List.length_nil, Nat.sub_zero, List.take_length, List.drop_length, List.zip_nil_right, List.forIn_nil, pure_bind]
  rw [if_neg (by rw [lookup_all hl]; simp)]
  rw [if_neg (by simp)]
  rw [List.append_nil, lookup_self h6 hl]

theorem lookup_some : ∀ {ps : List Str} {us : List Value}, us.length = ps.length → ∀ x ∈ ps, ((ps.zip us).lookup x).isNone = false
  | [], _, _, x, hx => by cases hx
  | _ :: _, [], h, _, _ => by cases h
  | p :: ps, u :: us, h, x, hx => by
    rw [List.zip_cons_cons, List.lookup_cons]
    by_cases e : (x == p) = true
    · rw [e]; rfl
    · have e' : (x == p) = false := by simpa using e
      rw [e']
      rcases List.mem_cons.mp hx with rfl | hx
      · simp at e
      · exact lookup_some (by simpa using h) x hx
theorem lookup_zip_append {x : Str} : ∀ {qs : List Str} {us : List Value} {r : List (Str × Value)}, us.length = qs.length → x ∈ qs → (qs.zip us ++ r).lookup x = (qs.zip us).lookup x
  | [], _, _, _, h => by cases h
  | _ :: _, [], _, h, _ => by cases h
  | p :: ps, u :: us, r, h, hx => by
    rw [List.zip_cons_cons, List.cons_append, List.lookup_cons, List.lookup_cons]
    by_cases e : (x == p) = true
    · rw [e]
    · have e' : (x == p) = false := by simpa using e
      rw [e']
      rcases List.mem_cons.mp hx with rfl | hx
      · simp at e
      · exact lookup_zip_append (by simpa using h) hx
/-- one default, a value, for the last parameter -/
theorem bind_dfl {x qual : Str} {p : Arguments} {body : List Stmt} {scope : Scope} {qs : List Str} {q : Str} (h : plainArgs p (qs ++ [q]) = true) (T : Addr) (kV doc pm : Value) (an : Option Addr) (cdv ct : Value) (us : List Value) (d : Value) (full : Bool) (hl : us.length = if full then qs.length + 1 else qs.length) :
    ∃ k, bindArgs (PySem.W.fnOf x qual p body scope (.ref T) kV doc pm an cdv ct) ⟨us, []⟩ = seqItems? (.ref T) >>= k ∧ k (some #[d]) = pure ((qs ++ [q]).zip (us ++ if full then [] else [d])) := by
  obtain ⟨po, ar, va, ko, kd, kw, df⟩ := p
  unfold plainArgs at h
  simp only [Bool.and_eq_true, decide_eq_true_eq] at h
  obtain ⟨⟨⟨⟨⟨h1, h2⟩, h3⟩, h4⟩, h5⟩, h6⟩ := h
  cases po with
  | cons _ _ => cases h1
  | nil =>
  cases ko with
  | cons _ _ => cases h2
  | nil =>
  cases va with
  | some _ => cases h3
  | none =>
  cases kw with
  | some _ => cases h4
  | none =>
  have hq : q ∉ qs := by
    rw [List.nodup_append] at h6
    exact fun hm => h6.2.2 q hm q (by simp) rfl
  have n1 : (qs ++ [q]).length = qs.length + 1 := by simp
  have hle : us.length ≤ qs.length + 1 := by rw [hl]; split <;> omega
  unfold bindArgs PySem.W.fnOf
  simp only [List.map_nil, List.nil_append, h5, List.forIn_nil, pure_bind, List.append_nil]
  refine ⟨_, rfl, ?_⟩
  simp only [Option.getD_some, List.length_cons, List.length_nil, n1]
  rw [if_neg (by simp; omega)]
  have e1 : (0 + 1) - (qs.length + 1) = 0 := by omega
  have e2 : qs.length + 1 - (0 + 1) = qs.length := by omega
  simp only [e1, e2, List.drop_zero, List.length_cons, List.length_nil, List.take_left', List.drop_left', List.take_left, List.drop_left]
  have miss : (qs.filter fun n => (((qs ++ [q]).zip us).lookup n).isNone) = [] := by
    rw [List.filter_eq_nil_iff]
    intro x hx
    cases full with
    | true => rw [lookup_some (by rw [hl, n1]; rfl) x (List.mem_append_left _ hx)]; simp
    | false =>
      have e : (qs ++ [q]).zip us = qs.zip us := by
        have := List.zip_append (l₁ := qs) (r₁ := [q]) (l₂ := us) (r₂ := []) hl.symm
        rw [List.append_nil] at this
        rw [this]; simp
      rw [e, lookup_some hl x hx]; simp
  rw [miss, if_neg (by simp)]
  have hz : [q].zip [d] = [(q, d)] := rfl
  rw [hz, List.forIn_cons]
  cases full with
  | true =>
    have hl' : us.length = (qs ++ [q]).length := by rw [hl, n1]; rfl
    have e : ((((qs ++ [q]).zip us).lookup q).isNone) = false := lookup_some hl' q (by simp)
    rw [if_neg (by rw [e]; simp)]
    simp only [pure_bind, List.forIn_nil]
    rw [if_neg (by simp), lookup_self h6 hl']
    simp
  | false =>
    have hl' : us.length = qs.length := hl
    have e : (qs ++ [q]).zip us = qs.zip us := by
      have := List.zip_append (l₁ := qs) (r₁ := [q]) (l₂ := us) (r₂ := []) hl'.symm
      rw [List.append_nil] at this
      rw [this]; simp
    have e3 : ((((qs ++ [q]).zip us).lookup q).isNone) = true := by rw [e, zip_lookup_none hq]; rfl
    rw [if_pos e3]
    simp only [pure_bind, List.forIn_nil]
    have e4 : (qs ++ [q]).zip us ++ [(q, d)] = (qs ++ [q]).zip (us ++ [d]) := by
      rw [e, List.zip_append hl'.symm]; rfl
    rw [if_neg (by simp), e4, lookup_self h6 (by simp [hl'])]
    rfl
/-! ### the description -/
structure FnT where
  d : He.DefD
  N : List Str
  ps : List Str
  body : Ss
  fr : Bool := false
/-- the last parameter's default, a whole number -/
def FnT.df (f : FnT) : Option Int := match f.d.dfl with
  | [.int i] => some i
  | _ => none
structure ClT where
  name : Str
  fl : List Str := []
  ini : Nat := 0
  pay : Option Str := none
  eq : Option Nat := none
structure RefT where
  c : Nat
  d : He.DefD
  N : List Str
  ps : List Str
  f : Str
structure Prog where
  fns : List FnT
  f0 : FnT
  cls : List ClT
  c0 : ClT
  nc : Nat
  gi : List (Str × Int)
  refs : List RefT
  law : He.DefD
def Prog.fnAt (p : Prog) (k : Nat) : FnT := p.fns.getD k p.f0
def Prog.clAt (p : Prog) (c : Nat) : ClT := p.cls.getD c p.c0
def Prog.nm (p : Prog) : Nm where
  top k := match p.fns[k]? with
    | some f => f.d.at_.2.isNone
    | none => false
  nc := p.nc
  gk := p.gi.length
  fn k := (p.fnAt k).d.name
  cl c := (p.clAt c).name
  gi k := (p.gi.getD k (Str.empty, 0)).1
  ex c := decide (p.nc ≤ c) && decide (c < p.cls.length)
  pay c := (p.clAt c).pay
  df c := p.fns[(p.clAt c).ini]?.bind FnT.df
def Prog.tab (p : Prog) : Tab where
  fr k := (p.fnAt k).fr
  fns k := p.fns[k]?.map fun f => ⟨f.ps.length, f.N.length, f.body, f.df⟩
  flds c := (p.clAt c).fl
  ini c := (p.clAt c).ini
  gint k := (p.gi.getD k (Str.empty, 0)).2
  eqf c := (p.clAt c).eq
/-! ### what the head is asked -/
def cinjB (p : Prog) (K : PySem.W.Frag) : Bool := (p.c0 :: p.cls).all fun a => (p.c0 :: p.cls).all fun b => !decide (He.ga K a.name = He.ga K b.name) || decide (a.fl = b.fl)
def eqV (a b : Option (Option Value)) : Bool := decide (a = b)
def clsB (p : Prog) (K : PySem.W.Frag) (c : Nat) : Bool :=
  decide ((p.fnAt (p.clAt c).ini).d.at_ = ((p.clAt c).name, some ("__init__" : Str))) &&
  eqV (PySem.W.findIn K (.ref (He.ga K (p.clAt c).name)) "__class__") (some (some (.builtin "object.__class__"))) &&
  eqV (PySem.W.specialIn K (.builtin "object.__class__") "__get__") (some (some (.builtin "getset_descriptor.__get__"))) &&
  decide (PySem.W.takesIn K (.builtin "object.__class__") = some true) &&
  decide (PySem.W.mroIn K (He.ga K (p.clAt c).name) (.type "object") = some true) &&
  ((["NoneType", "bool", "int", "str", "tuple", "list"] : List String).all fun T => decide (PySem.W.kitOne K (.type T) (.ref (He.ga K (p.clAt c).name)) = some false)) &&
  ((["int", "bool", "str", "list", "tuple"] : List String).all fun T => decide (PySem.W.kitOne K (.ref (He.ga K (p.clAt c).name)) (.type T) = some false)) &&
  ((List.range p.nc).all fun c' => decide (PySem.W.kitOne K (.ref (He.ga K (p.clAt c).name)) (.ref (He.ga K (p.clAt c').name)) = some (c == c'))) &&
  (match (p.clAt c).eq with
  | some f => eqV (PySem.W.findIn K (.ref (He.ga K (p.clAt c).name)) "__eq__") (some (some (.ref (He.fAd K (p.fnAt f).d.at_)))) && PySem.W.isFn K (.ref (He.fAd K (p.fnAt f).d.at_)) && eqV (PySem.W.findIn K (.ref (He.ga K (p.clAt c).name)) "__ne__") (some (some (.builtin "object.__ne__")))
  | none => true)
def oexB (K : PySem.W.Frag) (C : Addr) : Bool := match K.lookup C with
  | some ⟨.type "type", _, .cls cd, sl⟩ => (match cd.mro, sl.toList with
    | .ref C' :: bm, [_, _, _, _, some (.builtin n), _] => C' == C && n == "ValueError.__new__" && !cd.hasDel && cd.hasDict && PySem.HandSPX.refsVE bm
    | _, _ => false)
  | _ => false
theorem oexB_ok {K : PySem.W.Frag} {C : Addr} (q : oexB K C = true) : ∃ nm q N bs bm sn sub ab col dd k0 k1 k2 k3 k5, K.lookup C = some (excClassObj nm q C N bs bm true sn sub ab col dd k0 k1 k2 k3 k5 "ValueError.__new__") ∧ PySem.HandSPX.refsVE bm = true := by
  unfold oexB at q
  split at q
  · rename_i dd cd sl ho
    split at q
    · rename_i C' bm k0 k1 k2 k3 n k5 hm hs
      simp only [Bool.and_eq_true, beq_iff_eq, Bool.not_eq_true'] at q
      obtain ⟨⟨⟨⟨rfl, rfl⟩, hdel⟩, hh⟩, hr⟩ := q
      obtain ⟨nm, bs, mro, ns, qn, hd, sn, sub, ab, col, del⟩ := cd
      dsimp only at hm hdel hh
      subst hm hdel hh
      have hsl : sl = #[k0, k1, k2, k3, some (.builtin "ValueError.__new__"), k5] := by
        obtain ⟨l⟩ := sl
        simp only at hs
        rw [hs]
      subst hsl
      exact ⟨nm, qn, ns, bs, bm, sn, sub, ab, col, dd, k0, k1, k2, k3, k5, ho, hr⟩
    · cases q
  · cases q
def exB1 (p : Prog) (K : PySem.W.Frag) (c : Nat) : Bool :=
  eqV (PySem.W.findIn K (.ref (He.ga K (p.clAt c).name)) "__getattribute__") (some (some (.builtin "BaseException.__getattribute__"))) &&
  eqV (PySem.W.findIn K (.ref (He.ga K (p.clAt c).name)) "__getattr__") (some none) &&
  decide (PySem.W.subIn K (.ref (He.ga K (p.clAt c).name)) (.type "BaseException") = some true) &&
  PySem.W.hasDictIn K (He.ga K (p.clAt c).name) &&
  decide (PySem.W.typeIn K (.ref (He.ga K (p.clAt c).name)) = some (.type "type")) &&
  PySem.W.keepIn K (.ref (He.ga K (p.clAt c).name)) &&
  ((List.range p.cls.length).all fun c' => decide (c' < p.nc) || decide (PySem.W.exmOne K (.ref (He.ga K (p.clAt c).name)) (.ref (He.ga K (p.clAt c').name)) = some (c == c'))) &&
  (match (p.clAt c).pay with
  | none => PySem.W.excIn K (He.ga K (p.clAt c).name) He.veBase "ValueError.__new__"
  | some f => eqV (PySem.W.findIn K (.ref (He.ga K (p.clAt c).name)) f) (some none) && oexB K (He.ga K (p.clAt c).name) && eqV (PySem.W.findIn K (.ref (He.ga K (p.clAt c).name)) "__setattr__") (some (some (.builtin "object.__setattr__"))))
def refB1 (p : Prog) (K : PySem.W.Frag) (r : RefT) : Bool :=
  decide ((p.clAt r.c).pay = some r.f) && decide (r.d.at_ = ((p.clAt r.c).name, some ("__init__" : Str))) &&
  eqV (PySem.W.findIn K (.ref (He.ga K (p.clAt r.c).name)) "__init__") (some (some (.ref (He.fAd K r.d.at_)))) &&
  decide (PySem.W.typeIn K (.ref (He.fAd K r.d.at_)) = some (.type "function"))
def baseB (K : PySem.W.Frag) : Bool :=
  eqV (PySem.W.specialIn K (.ref (He.ga K "Fault")) "__getattribute__") (some (some (.builtin "type.__getattribute__"))) && PySem.W.readsIn K (He.ga K "Fault") (.type "type") &&
  (match PySem.W.findCls K (.ref (He.ga K "Fault")) (.type "type") "__init__" with
  | some (.val (.builtin i)) => i == "ValueError.__init__"
  | _ => false)
def exB (p : Prog) (K : PySem.W.Frag) : Bool := cinjB p K && ((List.range p.nc).all fun c => clsB p K c) && ((List.range p.cls.length).all fun c => decide (c < p.nc) || exB1 p K c) && (p.refs.all fun r => refB1 p K r) && baseB K
def Prog.facts (p : Prog) : List He.Fa :=
  bltNames.map He.Fa.free ++ (p.fns.filter fun f => f.d.at_.2.isNone).map (fun f => He.Fa.glo f.d.name) ++ (p.cls.map fun c => He.Fa.glo c.name) ++ [He.Fa.glo "Fault", He.Fa.glo p.law.name] ++
  ((p.cls.take p.nc).flatMap fun c => [He.Fa.cls c.name, He.Fa.mkr c.name] ++ c.fl.map (He.Fa.noat c.name)) ++ p.gi.map fun g => He.Fa.int g.1 g.2
def Prog.defs (p : Prog) : List He.DefD := p.fns.map (·.d) ++ p.refs.map (·.d) ++ [p.law]
/-! ### checks of the text alone -/
def scB (N P : List Str) (sc : Scope) : Bool :=
  decide (sc.kind = .function) && !sc.isCoroutine && !sc.isGenerator && decide N.Nodup && decide (N.take P.length = P) && P.all (fun x => decide (sc.names.lookup x = some .local) || decide (sc.names.lookup x = some .cell)) && sc.names.all (fun y => !decide (y.2 = .free))
theorem scB_ok {N P : List Str} {sc : Scope} (h : scB N P sc = true) : FnScope N P sc := by
  unfold scB at h
  simp only [Bool.and_eq_true, Bool.not_eq_true', decide_eq_true_eq, List.all_eq_true, Bool.or_eq_true, decide_eq_false_iff_not] at h
  obtain ⟨⟨⟨⟨⟨⟨h1, h2⟩, h3⟩, h4⟩, h5⟩, h6⟩, h7⟩ := h
  exact ⟨h1, h2, h3, h4, h5, h6, h7⟩
def fnB (nm : Nm) (f : FnT) : Bool := scB f.N f.ps f.d.scope && plainArgs f.d.params f.ps && chkSs nm f.N f.d.scope f.body f.d.body && (f.d.dfl.isEmpty || (f.df.isSome && !f.ps.isEmpty)) && f.d.kwd.isEmpty
def rfB (r : RefT) : Bool := scB r.N r.ps r.d.scope && plainArgs r.d.params r.ps && decide (r.ps.length = 2) && decide (r.N.length = 2) && refB "Fault" r.f r.N r.d.scope r.d.body && r.d.dfl.isEmpty && r.d.kwd.isEmpty
structure Prog.Ok (p : Prog) : Prop where
  fn : p.fns.all (fnB p.nm) = true
  nmq : p.fns.all (fun f => f.d.at_.2.isSome || decide (f.d.at_.1 = f.d.name)) = true
  f0 : p.f0 ∈ p.fns
  c0 : p.c0 ∈ p.cls
  nc : p.nc ≤ p.cls.length
  rf : p.refs.all rfB = true
  rc : ∀ c, p.nc ≤ c → c < p.cls.length → (p.clAt c).pay ≠ none → ∃ r ∈ p.refs, r.c = c
end Pu

/-! ======== Pu22 ======== -/
/-! The facts. -/
namespace Pu
open PySem PySem.Spec PyProof.Rows L2
theorem fnAt_some {p : Prog} {k : Nat} {f : FnT} (h : p.fns[k]? = some f) : p.fnAt k = f := by
  unfold Prog.fnAt
  rw [List.getD_eq_getElem?_getD, h]
  rfl
theorem fnAt_mem {p : Prog} (ok : p.f0 ∈ p.fns) (k : Nat) : p.fnAt k ∈ p.fns := by
  unfold Prog.fnAt
  rw [List.getD_eq_getElem?_getD]
  cases h : p.fns[k]? with
  | none => exact ok
  | some f => exact List.mem_of_getElem? h
theorem clAt_mem {p : Prog} (c : Nat) : p.clAt c ∈ p.c0 :: p.cls := by
  unfold Prog.clAt
  rw [List.getD_eq_getElem?_getD]
  cases h : p.cls[c]? with
  | none => exact List.mem_cons_self
  | some f => exact List.mem_cons_of_mem _ (List.mem_of_getElem? h)
theorem clAt_take {p : Prog} {c : Nat} (h : c < p.nc) (h2 : p.nc ≤ p.cls.length) : p.clAt c ∈ p.cls.take p.nc := by
  have hc : c < p.cls.length := by omega
  have e : p.clAt c = p.cls[c] := by
    unfold Prog.clAt
    rw [List.getD_eq_getElem?_getD, List.getElem?_eq_getElem hc]
    rfl
  rw [e]
  have : (p.cls.take p.nc)[c]? = some p.cls[c] := by rw [List.getElem?_take_of_lt h, List.getElem?_eq_getElem hc]
  exact List.mem_of_getElem? this
theorem clAt_memL {p : Prog} {c : Nat} (h : c < p.cls.length) : p.clAt c ∈ p.cls := by
  have e : p.clAt c = p.cls[c] := by
    unfold Prog.clAt
    rw [List.getD_eq_getElem?_getD, List.getElem?_eq_getElem h]
    rfl
  rw [e]
  exact List.getElem_mem h
theorem cinj_of {p : Prog} {K : PySem.W.Frag} (h : cinjB p K = true) (c c' : Nat) (e : He.ga K (p.clAt c).name = He.ga K (p.clAt c').name) : (p.clAt c).fl = (p.clAt c').fl := by
  unfold cinjB at h
  rw [List.all_eq_true] at h
  have h1 := h _ (clAt_mem c)
  rw [List.all_eq_true] at h1
  have h2 := h1 _ (clAt_mem c')
  rw [Bool.or_eq_true, Bool.not_eq_true', decide_eq_false_iff_not, decide_eq_true_eq] at h2
  rcases h2 with h2 | h2
  · exact absurd e h2
  · exact h2
def Prog.wd (p : Prog) (K : PySem.W.Frag) (h : cinjB p K = true) : Wd where
  K := K
  fa k := He.fAd K (p.fnAt k).d.at_
  ca c := He.ga K (p.clAt c).name
  fl c := (p.clAt c).fl
  pay c := (p.clAt c).pay
  nc := p.nc
  cinj := cinj_of h
theorem bA {a b : Bool} (h : (a && b) = true) : a = true ∧ b = true := Bool.and_eq_true_iff.mp h
theorem eqV_ok {a b : Option (Option Value)} (h : eqV a b = true) : a = b := of_decide_eq_true h
theorem fd_of {p : Prog} {K : PySem.W.Frag} (c : He.SaysD p.facts p.defs K) {d : He.DefD} (h : d ∈ p.defs) (h1 : d.dfl.isEmpty = true) (h2 : d.kwd.isEmpty = true) : ∃ fd, FunD K d.name d.qual d.params d.body d.scope [] [] (He.fAd K d.at_) fd := by
  obtain ⟨fd, F⟩ := c.defs h
  have e1 : d.dvs K = [] := by unfold He.DefD.dvs; rw [List.isEmpty_iff.mp h1]; rfl
  have e2 : d.kws K = [] := by unfold He.DefD.kws; rw [List.isEmpty_iff.mp h2]; rfl
  rw [e1, e2] at F
  exact ⟨fd, F⟩
theorem fd_of' {p : Prog} {K : PySem.W.Frag} (c : He.SaysD p.facts p.defs K) {d : He.DefD} (h : d ∈ p.defs) (h2 : d.kwd.isEmpty = true) : ∃ fd, FunD K d.name d.qual d.params d.body d.scope (d.dvs K) [] (He.fAd K d.at_) fd := by
  obtain ⟨fd, F⟩ := c.defs h
  have e2 : d.kws K = [] := by unfold He.DefD.kws; rw [List.isEmpty_iff.mp h2]; rfl
  rw [e2] at F
  exact ⟨fd, F⟩
theorem binds_dfl {K : PySem.W.Frag} {x qual : Str} {params : Arguments} {body : List Stmt} {scope : Scope} {f : Addr} {fd : FuncData} {ps : List Str} {i : Int} (F : FunD K x qual params body scope [V.int i] [] f fd) (h : plainArgs params ps = true) (hp : ps ≠ []) :
    Binds K fd ps [] ∧ ∃ us, Vals [V.int i] us ∧ Binds K fd ps us := by
  obtain ⟨qs, q, rfl⟩ : ∃ qs q, ps = qs ++ [q] := ⟨ps.dropLast, ps.getLast hp, (List.dropLast_concat_getLast hp).symm⟩
  have one : ∀ {its : List Value}, its.length = [V.int i].length → ∃ d, its = [d] := fun {its} hl => by
    cases its with
    | nil => cases hl
    | cons d r =>
      cases r with
      | nil => exact ⟨d, rfl⟩
      | cons _ _ => cases hl
  constructor
  · obtain ⟨ds, rv, hb⟩ := F.binds1 (ps := qs ++ [q]) (qs.length + 1) 1 (by simp) (by simp) fun T kV doc pm an cdv ct us its l1 l2 => by
      obtain ⟨d, rfl⟩ := one l2
      exact bind_dfl h T kV doc pm an cdv ct us d true l1
    have e : ds = [] := by
      have rv' : Vals [] ds := rv
      cases rv'
      rfl
    rwa [e] at hb
  · exact F.binds1 (ps := qs ++ [q]) qs.length 0 (by simp) (by simp) fun T kV doc pm an cdv ct us its l1 l2 => by
      obtain ⟨d, rfl⟩ := one l2
      exact bind_dfl h T kV doc pm an cdv ct us d false l1
/-! the head's watch: the statics too -/
def asP (g : Addr → Option Obj) (n : Nat) : List Addr := He.asD g n ++ [cStatics]
abbrev AlP : Type := He.AlT × Bool
def obsP (n : Nat) (fa : List He.Fa) (fn : List He.DefD) (ex : PySem.W.Frag → Bool) (g : Addr → Option Obj) : AlP := (He.obsT fa fn [] (He.frT g (asP g n)), ex (He.frT g (asP g n)))
def hookP (n : Nat) (fa : List He.Fa) (fn : List He.DefD) (ex : PySem.W.Frag → Bool) : PySem.W.Hook where
  α := AlP
  obs := fun s => obsP n fa fn ex s.heap.get?
  val := fun w => (He.valT fn [] w, true)
  says := fun w h => ∃ K : PySem.W.Frag, K.In h ∧ He.SaysX fa fn [] [] ex w h K
  of := fun _ h e => ⟨_, He.frT_in, ⟨congrArg (fun z : AlP => z.1) e, congrArg (fun z : AlP => z.2) e, fun _ hp => (by cases hp), fun _ hp => (by cases hp), fun _ hp => (by cases hp)⟩⟩
  keeps := fun _ _ _ ⟨K, hK, c⟩ k => ⟨K, PySem.W.Frag.In.keeps hK k, ⟨c.t, c.more, c.hd, c.out, fun _ hp => (by cases hp)⟩⟩
theorem obsP_eq {n : Nat} {fa : List He.Fa} {fn : List He.DefD} {ex : PySem.W.Frag → Bool} {g : Addr → Option Obj} {s : Shared} (h : ∀ a, g a = s.heap.get? a) : obsP n fa fn ex g = (hookP n fa fn ex).obs s := by
  have e : g = s.heap.get? := funext h
  rw [e] <;> rfl
theorem fs_of {p : Prog} (ok : p.Ok) {wo : World} {h : Heap} {K : PySem.W.Frag} {mg : Str → Option Value} (X : K.In h) (G : h.Ns mainGlobals mg) (c : He.SaysX p.facts p.defs [] [] (exB p) wo h K) : ∃ hc : cinjB p K = true, Fs (p.wd K hc) p.nm p.tab mg := by
  have cd := c.t.d
  obtain ⟨hm, m5⟩ := bA (show (_ && baseB K) = true from c.more)
  obtain ⟨hm, m4⟩ := bA hm
  obtain ⟨hm, m3⟩ := bA hm
  obtain ⟨m1, m2⟩ := bA hm
  rw [List.all_eq_true] at m2 m3 m4
  have fact : ∀ {f : He.Fa}, f ∈ p.facts → f.ok K = true := fun h => cd.facts h
  have okf := List.all_eq_true.mp ok.fn
  have okr := List.all_eq_true.mp ok.rf
  have glo : ∀ {x : Str}, He.Fa.glo x ∈ p.facts → mg x = some (.ref (He.ga K x)) := fun h => He.glo_ok X G (fact h)
  have mcl : ∀ c, c < p.cls.length → mg (p.clAt c).name = some (.ref (He.ga K (p.clAt c).name)) := fun c hc => glo (by
    unfold Prog.facts
    simp only [List.mem_append, List.mem_map]
    exact .inl (.inl (.inl (.inr ⟨_, clAt_memL hc, rfl⟩))))
  have fnd : ∀ f ∈ p.fns, ∃ dvs fd, FunD K f.d.name f.d.qual f.d.params f.d.body f.d.scope dvs [] (He.fAd K f.d.at_) fd ∧ FnScope f.N f.ps f.d.scope ∧ Binds K fd f.ps [] ∧ chkSs p.nm f.N f.d.scope f.body f.d.body = true ∧ ∀ i, f.df = some i → ∃ us, Vals [V.int i] us ∧ Binds K fd f.ps us := fun f hf => by
    obtain ⟨h1, h5⟩ := bA (okf f hf)
    obtain ⟨h1, h4⟩ := bA h1
    obtain ⟨h1, h3⟩ := bA h1
    obtain ⟨h1, h2⟩ := bA h1
    have hm : f.d ∈ p.defs := by unfold Prog.defs; simp only [List.mem_append, List.mem_map]; exact .inl (.inl ⟨f, hf, rfl⟩)
    rw [Bool.or_eq_true] at h4
    rcases h4 with h4 | h4
    · obtain ⟨fd, FD⟩ := fd_of cd hm h4 h5
      exact ⟨[], fd, FD, scB_ok h1, FD.bindsN fun kV doc pm an cdv ct us hl => bind_plain h2 kV doc pm an cdv ct us hl, h3, fun i hi => by
        unfold FnT.df at hi
        rw [List.isEmpty_iff.mp h4] at hi
        cases hi⟩
    · obtain ⟨h6, h7⟩ := bA h4
      obtain ⟨i, hi⟩ := Option.isSome_iff_exists.mp h6
      have hd : f.d.dfl = [.int i] := by
        unfold FnT.df at hi
        split at hi
        · rename_i j e
          cases hi
          exact e
        · cases hi
      obtain ⟨fd, FD⟩ := fd_of' cd hm h5
      have e1 : f.d.dvs K = [V.int i] := by unfold He.DefD.dvs; rw [hd]; rfl
      rw [e1] at FD
      obtain ⟨b1, b2⟩ := binds_dfl FD h2 (by intro e; rw [e] at h7; cases h7)
      exact ⟨_, fd, FD, scB_ok h1, b1, h3, fun j hj => by
        rw [hi] at hj
        cases hj
        exact b2⟩
  have exr : ∀ c, p.nm.ex c = true → p.nc ≤ c ∧ c < p.cls.length := fun c h => by
    obtain ⟨h1, h2⟩ := bA h
    exact ⟨of_decide_eq_true h1, of_decide_eq_true h2⟩
  have ex1 : ∀ c, p.nm.ex c = true → exB1 p K c = true := fun c h => by
    obtain ⟨h1, h2⟩ := exr c h
    have := m3 c (List.mem_range.mpr h2)
    rw [Bool.or_eq_true, decide_eq_true_eq] at this
    rcases this with q | q
    · omega
    · exact q
  refine ⟨m1, ?_⟩
  exact {
    blt := fun x hx => He.free_ok X G (fact (by unfold Prog.facts; simp only [List.mem_append, List.mem_map]; exact .inl (.inl (.inl (.inl (.inl ⟨x, hx, rfl⟩))))))
    cls := fun c hc => by
      have hc' : c < p.nc := hc
      have q := m2 c (List.mem_range.mpr hc')
      obtain ⟨q, q9⟩ := bA q
      obtain ⟨q, q8⟩ := bA q
      obtain ⟨q, q7⟩ := bA q
      obtain ⟨q, q6⟩ := bA q
      obtain ⟨q, q5⟩ := bA q
      obtain ⟨q, q4⟩ := bA q
      obtain ⟨q, q3⟩ := bA q
      obtain ⟨q1, q2⟩ := bA q
      rw [List.all_eq_true] at q6 q7 q8
      refine ⟨He.cls_ok (fact (by
        unfold Prog.facts
        simp only [List.mem_append, List.mem_flatMap]
        exact .inl (.inr ⟨p.clAt c, clAt_take hc' ok.nc, .inl (by simp)⟩))), fun f hf => He.noat_ok (fact (by
        unfold Prog.facts
        simp only [List.mem_append, List.mem_flatMap, List.mem_map]
        exact .inl (.inr ⟨p.clAt c, clAt_take hc' ok.nc, .inr ⟨f, hf, rfl⟩⟩))), eqV_ok q2, eqV_ok q3, of_decide_eq_true q4, of_decide_eq_true q5, fun T hT => of_decide_eq_true (q6 T hT), fun T hT => of_decide_eq_true (q7 T hT), fun c' h' => of_decide_eq_true (q8 c' (List.mem_range.mpr h'))⟩
    mcl := fun c hc => mcl c (Nat.lt_of_lt_of_le hc ok.nc)
    mfn := fun k hk => by
      have hk' : (match p.fns[k]? with | some f => f.d.at_.2.isNone | none => false) = true := hk
      cases e : p.fns[k]? with
      | none => rw [e] at hk'; cases hk'
      | some f =>
        rw [e] at hk'
        have ha := fnAt_some e
        have g := glo (x := f.d.name) (by
          unfold Prog.facts
          simp only [List.mem_append, List.mem_map, List.mem_filter]
          exact .inl (.inl (.inl (.inl (.inr ⟨f, ⟨List.mem_of_getElem? e, hk'⟩, rfl⟩)))))
        show mg (p.fnAt k).d.name = some (.ref (He.fAd K (p.fnAt k).d.at_))
        rw [ha, g]
        have z := List.all_eq_true.mp ok.nmq f (List.mem_of_getElem? e)
        rw [Bool.or_eq_true, decide_eq_true_eq] at z
        have hk2 : f.d.at_.2.isNone = true := hk'
        rcases z with z | z
        · rw [Option.isSome_iff_ne_none] at z
          exact absurd (Option.isNone_iff_eq_none.mp hk2) z
        · have e2 : f.d.at_ = (f.d.name, none) := by
            rw [← z, ← Option.isNone_iff_eq_none.mp hk2]
          rw [e2]
          rfl
    gi := fun k hk => by
      have hk' : k < p.gi.length := hk
      have e : p.gi.getD k (Str.empty, 0) = p.gi[k] := by rw [List.getD_eq_getElem?_getD, List.getElem?_eq_getElem hk']; rfl
      show ∃ t, mg (p.gi.getD k (Str.empty, 0)).1 = some (.int (p.gi.getD k (Str.empty, 0)).2 t)
      rw [e]
      exact He.int_ok X G (fact (by
        unfold Prog.facts
        simp only [List.mem_append, List.mem_map]
        exact .inr ⟨p.gi[k], List.getElem_mem hk', rfl⟩))
    fl := rfl
    nc := rfl
    eq := fun c hc f hf => by
      have hc' : c < p.nc := hc
      have hf' : (p.clAt c).eq = some f := hf
      have q := m2 c (List.mem_range.mpr hc')
      obtain ⟨q, q9⟩ := bA q
      obtain ⟨q, _⟩ := bA q
      obtain ⟨q, _⟩ := bA q
      obtain ⟨q, _⟩ := bA q
      obtain ⟨q, q5⟩ := bA q
      rw [hf'] at q9
      obtain ⟨q9, n3⟩ := bA q9
      obtain ⟨n1, n2⟩ := bA q9
      exact ⟨eqV_ok n1, n2, eqV_ok n3, of_decide_eq_true q5⟩
    fb := fun k => by
      obtain ⟨_, fd, FD, SC, B, _⟩ := fnd _ (fnAt_mem ok.f0 k)
      exact ⟨⟨fd, _, B⟩, FD.kp⟩
    fn := fun k f hk => by
      have hk' : (p.fns[k]?.map fun f => (⟨f.ps.length, f.N.length, f.body, f.df⟩ : Fn)) = some f := hk
      obtain ⟨ft, e, rfl⟩ := Option.map_eq_some_iff.mp hk'
      obtain ⟨dvs, fd, FD, SC, B, ch, bd⟩ := fnd ft (List.mem_of_getElem? e)
      have ha := fnAt_some e
      exact ⟨ft.N, ft.ps, _, _, _, _, _, dvs, fd, by show FunD K _ _ _ _ _ dvs [] (He.fAd K (p.fnAt k).d.at_) fd; rw [ha]; exact FD, SC, rfl, rfl, ch, B, bd⟩
    mdf := fun c i h => by
      have h' : (p.fns[(p.clAt c).ini]?.bind FnT.df) = some i := h
      obtain ⟨ft, e1, e2⟩ := Option.bind_eq_some_iff.mp h'
      exact ⟨⟨ft.ps.length, ft.N.length, ft.body, ft.df⟩, by show (p.fns[(p.clAt c).ini]?.map fun f => (⟨f.ps.length, f.N.length, f.body, f.df⟩ : Fn)) = _; rw [e1]; rfl, e2⟩
    mkr := fun c hc => by
      have hc' : c < p.nc := hc
      have q := m2 c (List.mem_range.mpr hc')
      obtain ⟨q, _⟩ := bA q
      obtain ⟨q, _⟩ := bA q
      obtain ⟨q, _⟩ := bA q
      obtain ⟨q, _⟩ := bA q
      obtain ⟨q, _⟩ := bA q
      obtain ⟨q, _⟩ := bA q
      obtain ⟨q, _⟩ := bA q
      obtain ⟨q1, _⟩ := bA q
      have m := He.mkr_ok (fact (f := .mkr (p.clAt c).name) (by
        unfold Prog.facts
        simp only [List.mem_append, List.mem_flatMap]
        exact .inl (.inr ⟨p.clAt c, clAt_take hc' ok.nc, .inl (by simp)⟩)))
      show Mk K (He.ga K (p.clAt c).name) (He.fAd K (p.fnAt (p.clAt c).ini).d.at_)
      rw [of_decide_eq_true q1]
      exact m
    ex := fun c hc => by
      have q := ex1 c hc
      obtain ⟨q, q8⟩ := bA q
      obtain ⟨q, q7⟩ := bA q
      obtain ⟨q, q6⟩ := bA q
      obtain ⟨q, q5⟩ := bA q
      obtain ⟨q, q4⟩ := bA q
      obtain ⟨q, q3⟩ := bA q
      obtain ⟨q1, q2⟩ := bA q
      refine ⟨eqV_ok q1, eqV_ok q2, of_decide_eq_true q3, q4, fun f hf => ?_⟩
      have hf' : (p.clAt c).pay = some f := hf
      rw [hf'] at q8
      obtain ⟨z, _⟩ := bA q8
      obtain ⟨z, _⟩ := bA z
      exact eqV_ok z
    mex := fun c hc => mcl c (exr c hc).2
    exm := fun c c' hc hc' => by
      have q := ex1 c hc
      obtain ⟨q, _⟩ := bA q
      obtain ⟨q, q7⟩ := bA q
      rw [List.all_eq_true] at q7
      obtain ⟨h1, h2⟩ := exr c' hc'
      have := q7 c' (List.mem_range.mpr h2)
      rw [Bool.or_eq_true, decide_eq_true_eq] at this
      rcases this with z | z
      · omega
      · exact of_decide_eq_true z
    pay := rfl
    rs := fun P wo base c hc => by
      have q := ex1 c hc
      obtain ⟨q, q8⟩ := bA q
      obtain ⟨q, q7⟩ := bA q
      obtain ⟨q, q6⟩ := bA q
      obtain ⟨q, q5⟩ := bA q
      obtain ⟨q, q4⟩ := bA q
      obtain ⟨q, q3⟩ := bA q
      obtain ⟨h1, h2⟩ := exr c hc
      cases hp : (p.clAt c).pay with
      | none =>
        rw [hp] at q8
        exact raise_plain q8 q6 (of_decide_eq_true q3) (of_decide_eq_true q5) (mcl c h2) hp
      | some f =>
        rw [hp] at q8
        obtain ⟨z, z3⟩ := bA q8
        obtain ⟨z1, z2⟩ := bA z
        obtain ⟨r, hr, rfl⟩ := ok.rc c h1 h2 (by rw [hp]; exact fun z => nomatch z)
        obtain ⟨y, y4⟩ := bA (m4 r hr)
        obtain ⟨y, y3⟩ := bA y
        obtain ⟨y1, y2⟩ := bA y
        have y1' := of_decide_eq_true y1
        rw [hp] at y1'
        cases y1'
        obtain ⟨t, t7⟩ := bA (okr r hr)
        obtain ⟨t, t6⟩ := bA t
        obtain ⟨t, t5⟩ := bA t
        obtain ⟨t, t4⟩ := bA t
        obtain ⟨t, t3⟩ := bA t
        obtain ⟨t1, t2⟩ := bA t
        obtain ⟨fd, FD⟩ := fd_of cd (by unfold Prog.defs; simp only [List.mem_append, List.mem_map]; exact .inl (.inr ⟨r, hr, rfl⟩)) t6 t7
        obtain ⟨b, b3⟩ := bA m5
        obtain ⟨b1, b2⟩ := bA b
        have bf : BaseF K mg "Fault" (He.ga K "Fault") := ⟨glo (by
          unfold Prog.facts
          simp only [List.mem_append]
          exact .inl (.inl (.inr (by simp)))), eqV_ok b1, b2, by
          split at b3
          · rename_i i e
            rw [e, beq_iff_eq.mp b3]
          · cases b3⟩
        have F := ok_refi (w := p.wd K m1) (mg := mg) (P := P) (wo := wo) (base := base) bf FD (scB_ok t1) (of_decide_eq_true t3) (of_decide_eq_true t4) t5
        exact raise_ref (w := p.wd K m1) (nm := p.nm) (mg := mg) ⟨oexB_ok z2, eqV_ok z3, of_decide_eq_true q3, of_decide_eq_true q5, q6⟩ (eqV_ok y3) (of_decide_eq_true y4) (eqV_ok z1) F (FD.bindsN fun kV doc pm an cdv ct us hl => bind_plain t2 kV doc pm an cdv ct us hl) (mcl _ h2) hp }
/-- the law's def, described: its first statement makes the state -/
structure LawT (p : Prog) (n kst ist : Nat) (rest : Ss) (N : List Str) (x₀ : Str) (first : Stmt) (body : List Stmt) : Prop where
  at_ : p.law.at_ = (p.law.name, none)
  dfl : p.law.dfl.isEmpty = true
  kwd : p.law.kwd.isEmpty = true
  sc : scB N [x₀] p.law.scope = true
  pa : plainArgs p.law.params [x₀] = true
  bd : p.law.body = first :: body
  isN : 0 < ist ∧ ist < N.length
  fr : p.tab.fr kst = true
  c1 : chkS p.nm N p.law.scope (.asgb ist (.call kst (.cons (.var 0) .nil))) first = true
  c2 : chkSs p.nm N p.law.scope rest body = true
  does : LawDoes p.tab n kst ist N.length rest
theorem walk_law {l : PySem.W.OpenLaw} {q : Program} {loose : List Str} {XP : (Str → Option Value) → Heap → Prop} {d : DefRec} {p : Prog} (ok : p.Ok) {m n kst ist : Nat} {rest : Ss} {N : List Str} {x₀ : Str} {first : Stmt} {body : List Stmt} (L : LawT p n kst ist rest N x₀ first body)
    (hn : l.most = some 63) (hdf : d.params.defaults = []) (hr : Room (lev n + 4) callerA) (hname : d.name = p.law.name) :
    PySem.W.WalkO q loose XP (hookP m p.facts p.defs (exB p)).says l.row.toRowW d [] (fun f vs => PySem.call f vs) := by
  refine L2.walk_ofE (l := l) (n := 63) (k := lev n + 4) (x := x₀) (CX := CX0) hn (by decide) hdf hr ?_ (fun _ _ _ _ z => z)
  intro w mg fa h Y G hmg
  obtain ⟨K, KX, c⟩ := Y
  obtain ⟨m1, F⟩ := fs_of ok KX G c
  obtain ⟨fd, FD⟩ := fd_of c.t.d (d := p.law) (by unfold Prog.defs; simp only [List.mem_append]; exact .inr (by simp)) L.dfl L.kwd
  have g : mg p.law.name = some (.ref (He.ga K p.law.name)) := He.glo_ok KX G (c.t.d.facts (by
    unfold Prog.facts
    simp only [List.mem_append]
    exact .inl (.inl (.inr (by simp)))))
  rw [hname, g] at hmg
  have efa : He.ga K p.law.name = fa := by
    have := Option.some.inj hmg
    injection this
  have eat : He.fAd K p.law.at_ = fa := by rw [L.at_, ← efa]; rfl
  rw [eat] at FD
  refine ⟨K, fd, spLaw K, KX, fun s u => FD.bindsA (ps := [x₀]) (fun kV doc pm an cdv ct us hl => bind_plain L.pa kV doc pm an cdv ct us hl) s [u] rfl, fun H a ns hl hO hS => ⟨a, ns, rfl, hl, hO, hS, fun _ => rfl⟩, fun base _ _ => ?_⟩
  have e := L.bd
  rw [e] at FD
  exact law_ok (w := p.wd K m1) F FD (scB_ok L.sc) L.isN.2 L.isN.1 L.fr L.c1 L.c2 L.does
end Pu

/-! ======== N1 ======== -/
/-! Ways of writing plain data down: equality, membership, order. -/
namespace Pu
open PySem
abbrev tp {α : Type} (i : α → D) (l : List α) : D := .tup (l.map i)
abbrev ls {α : Type} (i : α → D) (l : List α) : D := .lst (l.map i)
abbrev pr {α β : Type} (i : α → D) (j : β → D) (p : α × β) : D := .tup [i p.1, j p.2]

/-- data that can be compared for being the same -/
class Gd {α : Type} [DecidableEq α] (i : α → D) (k : outParam Nat) : Prop where
  lay : ∀ a, (i a).py.canLay0 = true
  dep : ∀ a, (i a).py.depth ≤ k
  eqv : ∀ a b, (i a).py.eqv (i b).py = decide (a = b)
instance : Gd D.int 0 where
  lay a := by simp [D.py, PyData.canLay0]
  dep a := by simp [D.py, PyData.depth]
  eqv a b := by
    simp only [D.py, PyData.eqv]
    by_cases h : a = b <;> simp [h]
instance : Gd D.bl 0 where
  lay a := by simp [D.py, PyData.canLay0]
  dep a := by simp [D.py, PyData.depth]
  eqv a b := by
    simp only [D.py, PyData.eqv]
    by_cases h : a = b <;> simp [h]
theorem pys_lay {α : Type} [DecidableEq α] {i : α → D} {k : Nat} [g : Gd i k] : ∀ l : List α, PyData.canLayAll0 (D.pys (l.map i)) = true
  | [] => by simp [D.pys, PyData.canLayAll0]
  | a :: l => by
    show PyData.canLayAll0 ((i a).py :: D.pys (l.map i)) = true
    rw [PyData.canLayAll0, pys_lay l, g.lay]
    rfl
theorem pys_dep {α : Type} [DecidableEq α] {i : α → D} {k : Nat} [g : Gd i k] : ∀ l : List α, PyData.depthAll (D.pys (l.map i)) ≤ k
  | [] => by simp [D.pys, PyData.depthAll]
  | a :: l => by
    show PyData.depthAll ((i a).py :: D.pys (l.map i)) ≤ k
    rw [PyData.depthAll]
    exact Nat.max_le.mpr ⟨g.dep a, pys_dep l⟩
theorem pys_eqv {α : Type} [DecidableEq α] {i : α → D} {k : Nat} [g : Gd i k] : ∀ l m : List α, PyData.eqvAll (D.pys (l.map i)) (D.pys (m.map i)) = decide (l = m)
  | [], [] => by simp [D.pys, PyData.eqvAll]
  | [], _ :: _ => by simp [D.pys, PyData.eqvAll]
  | _ :: _, [] => by simp [D.pys, PyData.eqvAll]
  | a :: l, b :: m => by
    show PyData.eqvAll ((i a).py :: D.pys (l.map i)) ((i b).py :: D.pys (m.map i)) = _
    rw [PyData.eqvAll, pys_eqv l m, g.eqv]
    by_cases h1 : a = b <;> by_cases h2 : l = m <;> simp [h1, h2]
instance {α : Type} [DecidableEq α] {i : α → D} {k : Nat} [g : Gd i k] : Gd (tp i) (k + 1) where
  lay l := by
    show PyData.canLay0 (.tuple (D.pys (l.map i))) = true
    rw [PyData.canLay0, pys_lay]
  dep l := by
    show PyData.depth (.tuple (D.pys (l.map i))) ≤ k + 1
    rw [PyData.depth]
    exact Nat.succ_le_succ (pys_dep l)
  eqv a b := by
    show PyData.eqv (.tuple (D.pys (a.map i))) (.tuple (D.pys (b.map i))) = _
    rw [PyData.eqv, pys_eqv]
instance {α : Type} [DecidableEq α] {i : α → D} {k : Nat} [g : Gd i k] : Gd (ls i) (k + 1) where
  lay l := by
    show PyData.canLay0 (.list (D.pys (l.map i))) = true
    rw [PyData.canLay0, pys_lay]
  dep l := by
    show PyData.depth (.list (D.pys (l.map i))) ≤ k + 1
    rw [PyData.depth]
    exact Nat.succ_le_succ (pys_dep l)
  eqv a b := by
    show PyData.eqv (.list (D.pys (a.map i))) (.list (D.pys (b.map i))) = _
    rw [PyData.eqv, pys_eqv]
instance {α β : Type} [DecidableEq α] [DecidableEq β] {i : α → D} {j : β → D} {k m : Nat} [g : Gd i k] [h : Gd j m] : Gd (pr i j) (max k m + 1) where
  lay p := by
    show PyData.canLay0 (.tuple [(i p.1).py, (j p.2).py]) = true
    rw [PyData.canLay0, PyData.canLayAll0, PyData.canLayAll0, PyData.canLayAll0, g.lay, h.lay]
    rfl
  dep p := by
    show PyData.depth (.tuple [(i p.1).py, (j p.2).py]) ≤ _
    rw [PyData.depth, PyData.depthAll, PyData.depthAll, PyData.depthAll]
    have := g.dep p.1
    have := h.dep p.2
    omega
  eqv p q := by
    show PyData.eqv (.tuple [(i p.1).py, (j p.2).py]) (.tuple [(i q.1).py, (j q.2).py]) = _
    rw [PyData.eqv, PyData.eqvAll, PyData.eqvAll, PyData.eqvAll, g.eqv, h.eqv]
    obtain ⟨a, b⟩ := p
    obtain ⟨c, d⟩ := q
    by_cases h1 : a = c <;> by_cases h2 : b = d <;> simp [h1, h2]
theorem Gd.sh {α : Type} [DecidableEq α] {i : α → D} {k : Nat} (g : Gd i k) (hk : k ≤ 64) (a : α) : SeqAt.shaped (i a).py = true := by
  unfold SeqAt.shaped
  rw [g.lay, Bool.true_and, decide_eq_true_eq]
  exact Nat.le_trans (g.dep a) hk
theorem sameD_ok {α : Type} [DecidableEq α] {i : α → D} {k : Nat} [g : Gd i k] (hk : k ≤ 64 := by decide) (a b : α) : sameD (i a) (i b) = some (decide (a = b)) := by
  unfold sameD
  rw [g.sh hk, g.sh hk, g.eqv]
  rfl
theorem any_pys {α : Type} [DecidableEq α] {i : α → D} {k : Nat} [g : Gd i k] (a : α) : ∀ l : List α, ((D.pys (l.map i)).any fun y => PyData.eqv y (i a).py) = decide (a ∈ l)
  | [] => by simp [D.pys]
  | b :: l => by
    show ((i b).py.eqv (i a).py || (D.pys (l.map i)).any fun y => PyData.eqv y (i a).py) = _
    rw [any_pys a l, g.eqv]
    by_cases h : a = b
    · subst h; simp
    · have : b ≠ a := fun z => h z.symm
      simp [h, this]
theorem memD_ok {α : Type} [DecidableEq α] {i : α → D} {k : Nat} [g : Gd i k] (hk : k + 1 ≤ 64 := by decide) (a : α) (l : List α) : memD (i a) (l.map i) = some (decide (a ∈ l)) := by
  have h1 : SeqAt.shaped (i a).py = true := g.sh (by omega) a
  have h2 : SeqAt.shaped (PyData.list (D.pys (l.map i))) = true := Gd.sh (i := ls i) (k := k + 1) inferInstance hk l
  unfold memD
  rw [h1, h2, any_pys]
  rfl

/-! order -/
def ltLs {α : Type} [DecidableEq α] (lt : α → α → Bool) : List α → List α → Bool
  | [], [] => false
  | [], _ :: _ => true
  | _ :: _, [] => false
  | a :: l, b :: m => if a = b then ltLs lt l m else lt a b
def ltPr {α β : Type} [DecidableEq α] (lt : α → α → Bool) (lu : β → β → Bool) (p q : α × β) : Bool := if p.1 = q.1 then lu p.2 q.2 else lt p.1 q.1
def ltI (a b : Int) : Bool := decide (a < b)
abbrev ltS : List Int → List Int → Bool := ltLs ltI
structure Sto {α : Type} (lt : α → α → Bool) : Prop where
  ir : ∀ a, lt a a = false
  tr : ∀ a b c, lt a b = true → lt b c = true → lt a c = true
  tt : ∀ a b, lt a b = true ∨ a = b ∨ lt b a = true
theorem stoI : Sto ltI where
  ir a := by simp [ltI]
  tr a b c h1 h2 := by simp [ltI] at *; omega
  tt a b := by simp [ltI]; omega
theorem Sto.as {α : Type} {lt : α → α → Bool} (h : Sto lt) {a b : α} (h1 : lt a b = true) : lt b a = false := by
  cases e : lt b a with
  | false => rfl
  | true => have := h.tr _ _ _ h1 e; rw [h.ir] at this; cases this
theorem Sto.ne {α : Type} {lt : α → α → Bool} (h : Sto lt) {a b : α} (h1 : lt a b = true) : a ≠ b := fun e => by
  subst e; rw [h.ir] at h1; cases h1
theorem ltLs_cons {α : Type} [DecidableEq α] {lt : α → α → Bool} {x y : α} {l m : List α} : ltLs lt (x :: l) (y :: m) = if x = y then ltLs lt l m else lt x y := rfl
theorem Sto.ls {α : Type} [DecidableEq α] {lt : α → α → Bool} (h : Sto lt) : Sto (ltLs lt) where
  ir a := by
    induction a with
    | nil => rfl
    | cons a l ih => simp [ltLs, ih]
  tr a b c h1 h2 := by
    induction a generalizing b c with
    | nil =>
      cases c with
      | nil => cases b <;> simp [ltLs] at h1 h2
      | cons => rfl
    | cons x l ih =>
      cases b with
      | nil => simp [ltLs] at h1
      | cons y m =>
        cases c with
        | nil => simp [ltLs] at h2
        | cons z n =>
          rw [ltLs_cons] at *
          by_cases e1 : x = y
          · subst e1
            by_cases e2 : x = z
            · subst e2
              simp only [if_true] at *
              exact ih _ _ h1 h2
            · simp only [e2, if_true, if_false] at *
              exact h2
          · simp only [e1, if_false] at h1
            by_cases e2 : y = z
            · subst e2
              simp only [e1, if_false]
              exact h1
            · simp only [e2, if_false] at h2
              have h3 := h.tr _ _ _ h1 h2
              have : x ≠ z := h.ne h3
              simp only [this, if_false]
              exact h3
  tt a b := by
    induction a generalizing b with
    | nil => cases b <;> simp [ltLs]
    | cons x l ih =>
      cases b with
      | nil => simp [ltLs]
      | cons y m =>
        rw [ltLs_cons, ltLs_cons]
        by_cases e : x = y
        · subst e
          simp only [if_true]
          rcases ih m with q | q | q
          · exact .inl q
          · subst q; exact .inr (.inl rfl)
          · exact .inr (.inr q)
        · have e' : y ≠ x := fun z => e z.symm
          simp only [e, e', if_false]
          rcases h.tt x y with q | q | q
          · exact .inl q
          · exact absurd q e
          · exact .inr (.inr q)
theorem Sto.pr {α β : Type} [DecidableEq α] {lt : α → α → Bool} {lu : β → β → Bool} (h : Sto lt) (k : Sto lu) : Sto (ltPr lt lu) where
  ir a := by simp [ltPr, k.ir]
  tr a b c h1 h2 := by
    obtain ⟨x, p⟩ := a
    obtain ⟨y, q⟩ := b
    obtain ⟨z, r⟩ := c
    simp only [ltPr] at *
    by_cases e1 : x = y
    · subst e1
      by_cases e2 : x = z
      · subst e2
        simp only [if_true] at *
        exact k.tr _ _ _ h1 h2
      · simp only [e2, if_true, if_false] at *
        exact h2
    · simp only [e1, if_false] at h1
      by_cases e2 : y = z
      · subst e2
        simp only [e1, if_false]
        exact h1
      · simp only [e2, if_false] at h2
        have h3 := h.tr _ _ _ h1 h2
        have : x ≠ z := h.ne h3
        simp only [this, if_false]
        exact h3
  tt a b := by
    obtain ⟨x, p⟩ := a
    obtain ⟨y, q⟩ := b
    simp only [ltPr]
    by_cases e : x = y
    · subst e
      simp only [if_true]
      rcases k.tt p q with r | r | r
      · exact .inl r
      · subst r; exact .inr (.inl rfl)
      · exact .inr (.inr r)
    · have e' : y ≠ x := fun z => e z.symm
      simp only [e, e', if_false]
      rcases h.tt x y with q | q | q
      · exact .inl q
      · exact absurd q e
      · exact .inr (.inr q)

/-- data in Python's order -/
class Od {α : Type} [DecidableEq α] (i : α → D) (lt : outParam (α → α → Bool)) : Prop where
  sto : Sto lt
  alk : ∀ a b, PySem.W.alike (i a).py (i b).py = true
  eqv : ∀ a b, (i a).py.eqv (i b).py = decide (a = b)
  dlt : ∀ a b, PySem.W.dataLt (i a).py (i b).py = lt a b

instance : Od D.int ltI where
  sto := stoI
  alk a b := by simp [D.py, PySem.W.alike]
  eqv := (inferInstance : Gd D.int 0).eqv
  dlt a b := PySem.W.dataLt_int a b
theorem od_alike {α : Type} [DecidableEq α] {i : α → D} {lt : α → α → Bool} [g : Od i lt] : ∀ l m : List α, PySem.W.alikeAll (D.pys (l.map i)) (D.pys (m.map i)) = true
  | [], _ => by simp [D.pys, PySem.W.alikeAll]
  | _ :: _, [] => by simp [D.pys, PySem.W.alikeAll]
  | a :: l, b :: m => by
    show PySem.W.alikeAll ((i a).py :: D.pys (l.map i)) ((i b).py :: D.pys (m.map i)) = true
    rw [PySem.W.alikeAll, od_alike l m, g.alk]
    rfl
theorem od_eqv {α : Type} [DecidableEq α] {i : α → D} {lt : α → α → Bool} [g : Od i lt] : ∀ l m : List α, PyData.eqvAll (D.pys (l.map i)) (D.pys (m.map i)) = decide (l = m)
  | [], [] => by simp [D.pys, PyData.eqvAll]
  | [], _ :: _ => by simp [D.pys, PyData.eqvAll]
  | _ :: _, [] => by simp [D.pys, PyData.eqvAll]
  | a :: l, b :: m => by
    show PyData.eqvAll ((i a).py :: D.pys (l.map i)) ((i b).py :: D.pys (m.map i)) = _
    rw [PyData.eqvAll, od_eqv l m, g.eqv]
    by_cases h1 : a = b <;> by_cases h2 : l = m <;> simp [h1, h2]
theorem od_lt {α : Type} [DecidableEq α] {i : α → D} {lt : α → α → Bool} [g : Od i lt] : ∀ l m : List α, PyProof.Rows.lexLt PyProof.Rows.itemOrd (PySem.W.keyToksAll (D.pys (l.map i))) (PySem.W.keyToksAll (D.pys (m.map i))) = ltLs lt l m
  | [], [] => by
    simp only [List.map_nil, D.pys, PySem.W.keyToksAll]
    exact PyProof.Rows.lex_irrefl _
  | [], a :: m => by
    show PyProof.Rows.lexLt PyProof.Rows.itemOrd (PySem.W.keyToksAll []) (PySem.W.keyToksAll ((i a).py :: D.pys (m.map i))) = true
    rw [PySem.W.toks_all_cons, PySem.W.keyToksAll]
    exact (PyProof.Rows.lex_diff (O := PyProof.Rows.itemOrd) (by intro h; cases h)).trans (by rfl)
  | a :: l, [] => by
    show PyProof.Rows.lexLt PyProof.Rows.itemOrd (PySem.W.keyToksAll ((i a).py :: D.pys (l.map i))) (PySem.W.keyToksAll []) = false
    rw [PySem.W.toks_all_cons, PySem.W.keyToksAll]
    exact (PyProof.Rows.lex_diff (O := PyProof.Rows.itemOrd) (by intro h; cases h)).trans (by rfl)
  | a :: l, b :: m => by
    show PyProof.Rows.lexLt PyProof.Rows.itemOrd (PySem.W.keyToksAll ((i a).py :: D.pys (l.map i))) (PySem.W.keyToksAll ((i b).py :: D.pys (m.map i))) = _
    rw [ltLs_cons]
    have e := g.eqv a b
    by_cases h : a = b
    · rw [if_pos h, PySem.W.dataLt_all_yes (g.alk a b) (by rw [e]; simp [h]), od_lt l m]
    · rw [if_neg h, PySem.W.dataLt_all_no (g.alk a b) (by rw [e]; simp [h]), g.dlt]
instance {α : Type} [DecidableEq α] {i : α → D} {lt : α → α → Bool} [g : Od i lt] : Od (tp i) (ltLs lt) where
  sto := g.sto.ls
  alk a b := by
    show PySem.W.alike (.tuple (D.pys (a.map i))) (.tuple (D.pys (b.map i))) = true
    rw [PySem.W.alike, od_alike]
  eqv a b := by
    show PyData.eqv (.tuple (D.pys (a.map i))) (.tuple (D.pys (b.map i))) = _
    rw [PyData.eqv, od_eqv]
  dlt a b := by
    show PySem.W.dataLt (.tuple (D.pys (a.map i))) (.tuple (D.pys (b.map i))) = _
    rw [PySem.W.dataLt_tuple, od_lt]
instance {α : Type} [DecidableEq α] {i : α → D} {lt : α → α → Bool} [g : Od i lt] : Od (ls i) (ltLs lt) where
  sto := g.sto.ls
  alk a b := by
    show PySem.W.alike (.list (D.pys (a.map i))) (.list (D.pys (b.map i))) = true
    rw [PySem.W.alike, od_alike]
  eqv a b := by
    show PyData.eqv (.list (D.pys (a.map i))) (.list (D.pys (b.map i))) = _
    rw [PyData.eqv, od_eqv]
  dlt a b := by
    show PySem.W.dataLt (.list (D.pys (a.map i))) (.list (D.pys (b.map i))) = _
    rw [PySem.W.dataLt_list, od_lt]
instance {α β : Type} [DecidableEq α] [DecidableEq β] {i : α → D} {j : β → D} {lt : α → α → Bool} {lu : β → β → Bool} [g : Od i lt] [k : Od j lu] : Od (pr i j) (ltPr lt lu) where
  sto := g.sto.pr k.sto
  alk p q := by
    show PySem.W.alike (.tuple [(i p.1).py, (j p.2).py]) (.tuple [(i q.1).py, (j q.2).py]) = true
    simp only [PySem.W.alike, PySem.W.alikeAll, g.alk, k.alk, Bool.and_self]
  eqv p q := by
    show PyData.eqv (.tuple [(i p.1).py, (j p.2).py]) (.tuple [(i q.1).py, (j q.2).py]) = _
    rw [PyData.eqv, PyData.eqvAll, PyData.eqvAll, PyData.eqvAll, g.eqv, k.eqv]
    obtain ⟨a, b⟩ := p
    obtain ⟨c, d⟩ := q
    by_cases h1 : a = c <;> by_cases h2 : b = d <;> simp [h1, h2]
  dlt p q := by
    show PySem.W.dataLt (.tuple [(i p.1).py, (j p.2).py]) (.tuple [(i q.1).py, (j q.2).py]) = _
    rw [PySem.W.dataLt_tuple]
    unfold ltPr
    have e := g.eqv p.1 q.1
    have e2 := k.eqv p.2 q.2
    by_cases h : p.1 = q.1
    · rw [if_pos h, PySem.W.dataLt_all_yes (g.alk _ _) (by rw [e]; simp [h])]
      by_cases h2 : p.2 = q.2
      · rw [PySem.W.dataLt_all_yes (k.alk _ _) (by rw [e2]; simp [h2]), h2, k.sto.ir]
        exact PyProof.Rows.lex_irrefl _
      · rw [PySem.W.dataLt_all_no (k.alk _ _) (by rw [e2]; simp [h2]), k.dlt]
    · rw [if_neg h, PySem.W.dataLt_all_no (g.alk _ _) (by rw [e]; simp [h]), g.dlt]

/-! sorting -/
def insB {α : Type} (le : α → α → Bool) (x : α) : List α → List α
  | [] => [x]
  | y :: l => if le x y then x :: y :: l else y :: insB le x l
def isort {α : Type} (le : α → α → Bool) : List α → List α
  | [] => []
  | x :: l => insB le x (isort le l)
/-- the list in order -/
abbrev srt {α : Type} (lt : α → α → Bool) (l : List α) : List α := isort (fun a b => !lt b a) l
theorem insB_perm {α : Type} (le : α → α → Bool) (x : α) : ∀ l : List α, (insB le x l).Perm (x :: l)
  | [] => List.Perm.refl _
  | y :: l => by
    unfold insB
    split
    · exact List.Perm.refl _
    · exact ((insB_perm le x l).cons y).trans (List.Perm.swap x y l)
theorem isort_perm {α : Type} (le : α → α → Bool) : ∀ l : List α, (isort le l).Perm l
  | [] => List.Perm.refl _
  | x :: l => (insB_perm le x _).trans ((isort_perm le l).cons x)
theorem insB_sorted {α : Type} {le : α → α → Bool} (tr : ∀ a b c, le a b = true → le b c = true → le a c = true) (tot : ∀ a b, le a b = true ∨ le b a = true) (x : α) : ∀ {l : List α}, l.Pairwise (fun a b => le a b = true) → (insB le x l).Pairwise (fun a b => le a b = true)
  | [], _ => List.pairwise_singleton _ _
  | y :: l, h => by
    unfold insB
    split
    · rename_i e
      refine List.Pairwise.cons (fun z hz => ?_) h
      rcases List.mem_cons.mp hz with rfl | hz
      · exact e
      · exact tr _ _ _ e ((List.pairwise_cons.mp h).1 z hz)
    · rename_i e
      have e' : le y x = true := (tot y x).resolve_right e
      refine List.Pairwise.cons (fun z hz => ?_) (insB_sorted tr tot x (List.pairwise_cons.mp h).2)
      rcases List.mem_cons.mp ((insB_perm le x l).mem_iff.mp hz) with rfl | hz
      · exact e'
      · exact (List.pairwise_cons.mp h).1 z hz
theorem isort_sorted {α : Type} {le : α → α → Bool} (tr : ∀ a b c, le a b = true → le b c = true → le a c = true) (tot : ∀ a b, le a b = true ∨ le b a = true) : ∀ l : List α, (isort le l).Pairwise (fun a b => le a b = true)
  | [] => List.Pairwise.nil
  | x :: l => insB_sorted tr tot x (isort_sorted tr tot l)
theorem Sto.le_tr {α : Type} {lt : α → α → Bool} (h : Sto lt) (a b c : α) (h1 : (!lt b a) = true) (h2 : (!lt c b) = true) : (!lt c a) = true := by
  rw [Bool.not_eq_true'] at *
  cases e : lt c a with
  | false => rfl
  | true =>
    rcases h.tt a b with q | q | q
    · rw [h.tr _ _ _ e q] at h2; cases h2
    · subst q; rw [e] at h2; cases h2
    · rw [q] at h1; cases h1
theorem Sto.le_tot {α : Type} {lt : α → α → Bool} (h : Sto lt) (a b : α) : (!lt b a) = true ∨ (!lt a b) = true := by
  cases e : lt b a with
  | false => exact .inl rfl
  | true => exact .inr (by rw [h.as e]; rfl)
theorem Sto.le_as {α : Type} {lt : α → α → Bool} (h : Sto lt) (a b : α) (h1 : (!lt b a) = true) (h2 : (!lt a b) = true) : a = b := by
  rw [Bool.not_eq_true'] at *
  rcases h.tt a b with q | q | q
  · rw [q] at h2; cases h2
  · exact q
  · rw [q] at h1; cases h1
theorem srt_perm {α : Type} (lt : α → α → Bool) (l : List α) : (srt lt l).Perm l := isort_perm _ l
theorem Sto.sorted {α : Type} {lt : α → α → Bool} (h : Sto lt) (l : List α) : (srt lt l).Pairwise fun a b => (!lt b a) = true := isort_sorted h.le_tr h.le_tot l
/-- the one list in order -/
theorem Sto.uniq {α : Type} {lt : α → α → Bool} (h : Sto lt) {l m : List α} (hp : l.Perm m) (h1 : l.Pairwise fun a b => (!lt b a) = true) (h2 : m.Pairwise fun a b => (!lt b a) = true) : l = m :=
  List.Perm.eq_of_pairwise (fun a b _ _ e1 e2 => h.le_as a b e1 e2) h1 h2 hp
theorem Sto.merge {α : Type} {lt : α → α → Bool} (h : Sto lt) (l : List α) : l.mergeSort (fun a b => !lt b a) = srt lt l :=
  h.uniq ((List.mergeSort_perm l _).trans (srt_perm lt l).symm) (List.pairwise_mergeSort h.le_tr (fun a b => by rw [Bool.or_eq_true]; exact h.le_tot a b) l) (h.sorted l)
theorem Sto.srt_eq {α : Type} {lt : α → α → Bool} (h : Sto lt) {l m : List α} (hp : l.Perm m) : srt lt l = srt lt m :=
  h.uniq ((srt_perm lt l).trans (hp.trans (srt_perm lt m).symm)) (h.sorted l) (h.sorted m)
theorem Sto.srt_id {α : Type} {lt : α → α → Bool} (h : Sto lt) {l m : List α} (hp : l.Perm m) (hs : m.Pairwise fun a b => lt a b = true) : srt lt l = m :=
  h.uniq ((srt_perm lt l).trans hp) (h.sorted l) (hs.imp fun e => by rw [h.as e]; rfl)
end Pu

/-! ======== N2 ======== -/
/-! What terms compute, by rules that find the answer. -/
namespace Pu
open PySem
abbrev iD (l : List Int) : List D := l.map D.int
abbrev iT (l : List Int) : D := .tup (iD l)
structure Ev (g : G) (e : E) (m : Nat) (ρ : Rho) (S : Sx) (d : D) : Prop where
  eq : e.den g m ρ S = .ok d S
structure Ew (g : G) (e : E) (m : Nat) (ρ : Rho) (S : Sx) (d : D) : Prop where
  eq : e.den g m ρ S = .ok d S
structure Evs (g : G) (es : Es) (m : Nat) (ρ : Rho) (S : Sx) (ds : List D) : Prop where
  eq : es.den g m ρ S = .ok ds S
structure Sr (g : G) (s : Src) (m : Nat) (ρ : Rho) (S : Sx) (ds : List D) : Prop where
  eq : s.den g m ρ S = .ok ds S
structure Sv (g : G) (ss : Ss) (ρ : Rho) (S : Sx) (r : RS) : Prop where
  eq : ss.den g ρ S = r
structure Bn (op : Op) (x y d : D) : Prop where
  eq : binD op x y = some d
structure Cp (c : Cm) (x y : D) (b : Bool) : Prop where
  eq : cmpD c x y = some (.bl b)
structure Bl (f : Blt) (ds : List D) (d : D) : Prop where
  eq : bltD f ds = some d
structure Tu (g : G) (t : Tg) (body : Ss) (d : D) (ρ : Rho) (S : Sx) (ρ2 : Rho) : Prop where
  eq : ∃ ρ', t.bind d ρ = some ρ' ∧ body.den g ρ' S = .next ρ2 S
structure Nt (m : Nat) (d : D) : Prop where
  eq : m < 2 ∨ ∃ l, d = .lst l
structure Lk (ρ : Rho) (i : Nat) (s : Sl) : Prop where
  eq : ρ[i]? = some s
class Cl (T : Tab) (n k : Nat) (ds : List D) (S : Sx) (d : outParam D) : Prop where
  eq : run T n false k ds S = .ok d S
structure Cg (T : Tab) (n k : Nat) (ds : List D) (S : Sx) (d : D) : Prop where
  eq : run T n false k ds S = .ok d S
theorem cl_inst {T : Tab} {n k : Nat} {ds : List D} {S : Sx} {d : D} [h : Cl T n k ds S d] : Cg T n k ds S d := ⟨h.eq⟩
class Fd (g : G) (x : D) (f : Str) (d : outParam D) : Prop where
  eq : fldD g x f = some d
structure Fg (g : G) (x : D) (f : Str) (d : D) : Prop where
  eq : fldD g x f = some d
theorem fd_inst {g : G} {x : D} {f : Str} {d : D} [h : Fd g x f d] : Fg g x f d := ⟨h.eq⟩
structure Ix (x y d : D) : Prop where
  eq : idxD x y = some d
theorem atI_nat {α : Type} {l : List α} {k : Nat} {a : α} (h : l[k]? = some a) : L2.atI l (k : Int) = some a := by
  have hk : k < l.length := (List.getElem?_eq_some_iff.mp h).1
  unfold L2.atI L2.ixN
  rw [if_pos (by omega), if_pos (by omega)]
  exact h
theorem ix_tup {l : List D} {k : Nat} {a : D} (h : l[k]? = some a) : Ix (.tup l) (.int (k : Int)) a := ⟨atI_nat h⟩
theorem ix_lst {l : List D} {k : Nat} {a : D} (h : l[k]? = some a) : Ix (.lst l) (.int (k : Int)) a := ⟨atI_nat h⟩
theorem ix0 {a : D} {l : List D} : Ix (.tup (a :: l)) (.int 0) a := ix_tup (k := 0) rfl
theorem ix1 {a b : D} {l : List D} : Ix (.tup (a :: b :: l)) (.int 1) b := ix_tup (k := 1) rfl
theorem ix2 {a b c : D} {l : List D} : Ix (.tup (a :: b :: c :: l)) (.int 2) c := ix_tup (k := 2) rfl
structure Cw (T : Tab) (n k : Nat) (ds : List D) (S : Sx) (d : D) : Prop where
  eq : run T n false k ds S = .ok d S
structure Can {α β : Type} (l : List α) (d : α → D) (j : β → D) (f : α → β) : Prop where
  eq : ∀ a ∈ l, d a = j (f a)
structure Tb {α : Type} (l : List α) (tg : Tg) (i : α → D) (ρ : Rho) (ρ' : α → Rho) : Prop where
  eq : ∀ a ∈ l, tg.bind (i a) ρ = some (ρ' a)
section
variable {g : G} {m : Nat} {ρ : Rho} {S : Sx}
theorem Nt.nat {r : R D} {d : D} (h : Nt m d) (e : r = .ok d S) : natM m r = .ok d S := by
  subst e
  unfold natM
  rcases h.eq with h | ⟨l, rfl⟩
  · rw [if_pos h]
  · split <;> rfl
theorem ew {e : E} {d d' : D} (h : Ev g e m ρ S d) (hd : d = d') : Ew g e m ρ S d' := ⟨hd ▸ h.eq⟩
theorem cw {T : Tab} {n k : Nat} {ds : List D} {d d' : D} (h : Cg T n k ds S d) (hd : d = d') : Cw T n k ds S d' := ⟨hd ▸ h.eq⟩
theorem nt0 {d : D} : Nt 0 d := ⟨.inl (by decide)⟩
theorem nt1 {d : D} : Nt 1 d := ⟨.inl (by decide)⟩
theorem nt2 {l : List D} : Nt 2 (.lst l) := ⟨.inr ⟨l, rfl⟩⟩
theorem onlyNew_ok {r : R D} (hm : m < 2) : onlyNew m r = r := if_pos hm
theorem e_var {i : Nat} {d : D} (h : Lk ρ i (.v d)) (hm : m < 2) : Ev g (.var i) m ρ S d := ⟨by rw [E.den, h.eq]; exact onlyNew_ok hm⟩
theorem e_varb {i : Nat} {ds : List D} (h : Lk ρ i (.b ds)) : Ev g (.var i) 1 ρ S (.lst ds) := ⟨by rw [E.den, h.eq]; rfl⟩
theorem e_int {i : Int} (hm : m < 2) : Ev g (.int i) m ρ S (.int i) := ⟨by rw [E.den, onlyNew_ok hm]⟩
theorem e_bl {i : Bool} (hm : m < 2) : Ev g (.bl i) m ρ S (.bl i) := ⟨by rw [E.den, onlyNew_ok hm]⟩
theorem e_non (hm : m < 2) : Ev g .non m ρ S .non := ⟨by rw [E.den, onlyNew_ok hm]⟩
theorem e_str {i : Str} (hm : m < 2) : Ev g (.str i) m ρ S (.str i) := ⟨by rw [E.den, onlyNew_ok hm]⟩
theorem e_gfn {i : Nat} (hm : m < 2) : Ev g (.gfn i) m ρ S (.fn i) := ⟨by rw [E.den, onlyNew_ok hm]⟩
theorem e_gint {i : Nat} (hm : m < 2) : Ev g (.gint i) m ρ S (.int (g.gint i)) := ⟨by rw [E.den, onlyNew_ok hm]⟩
theorem es_nil : Evs g .nil m ρ S [] := ⟨rfl⟩
theorem es_cons {e : E} {es : Es} {d : D} {ds : List D} (h1 : Ev g e m ρ S d) (h2 : Evs g es m ρ S ds) : Evs g (.cons e es) m ρ S (d :: ds) := ⟨by rw [Es.den, h1.eq]; show R.bind (es.den g m ρ S) _ = _; rw [h2.eq]; rfl⟩
theorem e_tup {es : Es} {ds : List D} (h : Evs g es 0 ρ S ds) (hm : m < 2) : Ev g (.tup es) m ρ S (.tup ds) := ⟨by rw [E.den, onlyNew_ok hm, h.eq]; rfl⟩
theorem e_lst {es : Es} {ds : List D} (h : Evs g es 0 ρ S ds) : Ev g (.lst es) m ρ S (.lst ds) := ⟨by rw [E.den, h.eq]; rfl⟩
theorem e_bin {op : Op} {a b : E} {x y d : D} (h1 : Ev g a 1 ρ S x) (h2 : Ev g b 1 ρ S y) (h : Bn op x y d) (hn : Nt m d) : Ev g (.bin op a b) m ρ S d := ⟨by
  rw [E.den, h1.eq]
  show natM m (R.bind (b.den g 1 ρ S) _) = _
  rw [h2.eq]
  exact hn.nat (by show R.of S (binD op x y) = _; rw [h.eq]; rfl)⟩
theorem e_neg {a : E} {i : Int} (h : Ev g a 0 ρ S (.int i)) (hm : m < 2) : Ev g (.neg a) m ρ S (.int (-i)) := ⟨by rw [E.den, onlyNew_ok hm, h.eq]; rfl⟩
theorem e_cmp {c : Cm} {a b : E} {x y : D} {q : Bool} (h1 : Ev g a 1 ρ S x) (h2 : Ev g b 1 ρ S y) (h : Cp c x y q) (hm : m < 2) : Ev g (.cmp c a b) m ρ S (.bl q) := ⟨by
  rw [E.den, h1.eq, onlyNew_ok hm]
  show R.bind (b.den g 1 ρ S) _ = _
  rw [h2.eq]
  show R.of S (cmpD c x y) = _
  rw [h.eq]; rfl⟩
theorem e_chain {c1 c2 : Cm} {a b d : E} {x y z : D} {p q : Bool} (h1 : Ev g a 0 ρ S x) (h2 : Ev g b 0 ρ S y) (h3 : Cp c1 x y p) (h4 : Ev g d 0 ρ S z) (h5 : Cp c2 y z q) (hm : m < 2) : Ev g (.chain c1 c2 a b d) m ρ S (.bl (p && q)) := ⟨by
  rw [E.den, h1.eq, onlyNew_ok hm]
  show R.bind (b.den g 0 ρ S) _ = _
  rw [h2.eq]
  show R.bind (R.of S (cmpD c1 x y)) _ = _
  rw [h3.eq]
  cases p with
  | false => rfl
  | true =>
    show R.bind (d.den g 0 ρ S) _ = _
    rw [h4.eq]
    show R.of S (cmpD c2 y z) = _
    rw [h5.eq]; rfl⟩
theorem e_and {a b : E} {p q : Bool} (h1 : Ev g a 0 ρ S (.bl p)) (h2 : p = true → Ew g b 0 ρ S (.bl q)) (hm : m < 2) : Ev g (.and a b) m ρ S (.bl (p && q)) := ⟨by
  rw [E.den, h1.eq, onlyNew_ok hm]
  cases p with
  | false => rfl
  | true => exact (h2 rfl).eq⟩
theorem e_or {a b : E} {p q : Bool} (h1 : Ev g a 0 ρ S (.bl p)) (h2 : p = false → Ew g b 0 ρ S (.bl q)) (hm : m < 2) : Ev g (.or a b) m ρ S (.bl (p || q)) := ⟨by
  rw [E.den, h1.eq, onlyNew_ok hm]
  cases p with
  | true => rfl
  | false => exact (h2 rfl).eq⟩
theorem e_not {a : E} {p : Bool} (h1 : Ev g a 0 ρ S (.bl p)) (hm : m < 2) : Ev g (.not a) m ρ S (.bl (!p)) := ⟨by
  rw [E.den, h1.eq, onlyNew_ok hm]; rfl⟩
theorem e_ite {c a b : E} {p : Bool} {d1 d2 : D} (h1 : Ev g c 0 ρ S (.bl p)) (h2 : p = true → Ew g a m ρ S d1) (h3 : p = false → Ew g b m ρ S d2) : Ev g (.ite c a b) m ρ S (bif p then d1 else d2) := ⟨by
  rw [E.den, h1.eq]
  cases p with
  | true => exact (h2 rfl).eq
  | false => exact (h3 rfl).eq⟩
theorem e_call {T : Tab} {n k : Nat} {es : Es} {ds : List D} {d : D} (h1 : Evs (gAt T n) es 0 ρ S ds) (h : Cg T n k ds S d) (hm : m < 2) : Ev (gAt T n) (.call k es) m ρ S d := ⟨by
  rw [E.den]
  have : (if (gAt T n).fr k = true then 0 else m) < 2 := by split <;> omega
  rw [onlyNew_ok this, h1.eq]
  exact h.eq⟩
theorem e_blt {f : Blt} {es : Es} {ds : List D} {d : D} (h1 : Evs g es 1 ρ S ds) (h : Bl f ds d) (hn : Nt m d) : Ev g (.blt f es) m ρ S d := ⟨by
  rw [E.den, h1.eq]
  exact hn.nat (by show R.of S (bltD f ds) = _; rw [h.eq]; rfl)⟩
theorem e_isin {a : E} {o : Bool} {ts : List Ty} {x : D} {b : Bool} (h1 : Ev g a 0 ρ S x) (h : isTys x ts = some b) (hm : m < 2) : Ev g (.isin a o ts) m ρ S (.bl b) := ⟨by
  rw [E.den, h1.eq, onlyNew_ok hm]
  show R.of S ((isTys x ts).map D.bl) = _
  rw [h]; rfl⟩
def isNb (n : Bool) : D → Bool
  | .non => !n
  | _ => n
theorem e_isN {n : Bool} {a : E} {x : D} (h1 : Ev g a 0 ρ S x) (hm : m < 2) : Ev g (.isN n a) m ρ S (.bl (isNb n x)) := ⟨by
  rw [E.den, h1.eq, onlyNew_ok hm]
  cases x <;> rfl⟩
theorem e_fld {a : E} {f : Str} {x d : D} (h1 : Ev g a 0 ρ S x) (h : Fg g x f d) (hm : m < 2) : Ev g (.fld a f) m ρ S d := ⟨by
  rw [E.den, h1.eq, onlyNew_ok hm]
  show R.of S (fldD g x f) = _
  rw [h.eq]; rfl⟩
theorem e_idx {a b : E} {x y d : D} (h1 : Ev g a 1 ρ S x) (h2 : Ev g b 0 ρ S y) (h : Ix x y d) (hm : m < 2) : Ev g (.idx a b) m ρ S d := ⟨by
  rw [E.den, h1.eq, onlyNew_ok hm]
  show R.bind (b.den g 0 ρ S) _ = _
  rw [h2.eq]
  show idxS x y S = _
  cases x <;> first | (show R.of S (idxD _ y) = _; rw [h.eq]; rfl) | cases h.eq⟩
theorem sr_ex {e : E} {x : D} {ds : List D} (h : Ev g e m ρ S x) (h2 : itemsD x = some ds) : Sr g (.ex e) m ρ S ds := ⟨by
  rw [Src.den, h.eq]
  show R.of S (itemsD x) = _
  rw [h2]; rfl⟩
theorem sr_ext {e : E} {ds : List D} (h : Ev g e m ρ S (.tup ds)) : Sr g (.ex e) m ρ S ds := sr_ex h rfl
/-- whole numbers from lo on -/
def rg (lo : Int) (k : Nat) : List Int := (List.range k).map fun (j : Nat) => lo + (j : Int)
theorem rngD_rg (lo : Int) (k : Nat) : rngD lo k = (rg lo k).map D.int := by
  unfold rngD rg
  rw [List.map_map]; rfl
structure Rok (i : Int) : Prop where
  lo : -(2 ^ 62) ≤ i
  hi : i ≤ 16777216
theorem sizeLine_eq : sizeLine = 16777216 := by decide
theorem Rok.small {i : Int} (h : Rok i) : small i = true := by
  unfold Pu.small
  rw [Bool.and_eq_true, decide_eq_true_eq, decide_eq_true_eq]
  have := h.lo
  have := h.hi
  omega
theorem sr_rng1 {a : E} {i : Int} (h : Ev g a 0 ρ S (.int i)) (hi : Rok i) : Sr g (.rng1 a) m ρ S ((rg 0 i.toNat).map D.int) := ⟨by
  rw [Src.den, h.eq]
  show (if small i && decide (i.toNat ≤ sizeLine) then R.ok (rngD 0 i.toNat) S else .stuck) = _
  have h2 : i.toNat ≤ sizeLine := by rw [sizeLine_eq]; have := hi.hi; omega
  rw [hi.small, decide_eq_true h2, rngD_rg]
  rfl⟩
theorem sr_rng2 {a b : E} {i j : Int} (h1 : Ev g a 0 ρ S (.int i)) (h2 : Ev g b 0 ρ S (.int j)) (hi : Rok i) (hj : Rok j) (hij : Rok (j - i)) : Sr g (.rng2 a b) m ρ S ((rg i (j - i).toNat).map D.int) := ⟨by
  rw [Src.den, h1.eq]
  show R.bind (b.den g 0 ρ S) _ = _
  rw [h2.eq]
  show (if small i && small j && decide ((j - i).toNat ≤ sizeLine) then R.ok (rngD i (j - i).toNat) S else .stuck) = _
  have h2 : (j - i).toNat ≤ sizeLine := by rw [sizeLine_eq]; have := hij.hi; omega
  rw [hi.small, hj.small, decide_eq_true h2, rngD_rg]
  rfl⟩
theorem zipIdx_map' {α : Type} (i : α → D) (l : List α) : enumD (l.map i) = (l.zipIdx.map fun p => ((p.2 : Int), p.1)).map (pr D.int i) := by
  unfold enumD
  rw [List.zipIdx_map, List.map_map, List.map_map]
  rfl
theorem sr_enum {α : Type} {i : α → D} {l : List α} {e : E} {x : D} (h : Ev g e m ρ S x) (h2 : itemsD x = some (l.map i)) : Sr g (.enum e) m ρ S ((l.zipIdx.map fun p => ((p.2 : Int), p.1)).map (pr D.int i)) := ⟨by
  rw [Src.den, h.eq]
  show R.bind (R.of S (itemsD x)) _ = _
  rw [h2, ← zipIdx_map']; rfl⟩
theorem zip_map' {α β : Type} (i : α → D) (j : β → D) (l : List α) (k : List β) : zipD (l.map i) (k.map j) = (l.zip k).map (pr i j) := by
  unfold zipD
  rw [List.zip_map, List.map_map]
  rfl
theorem sr_zipt {α β : Type} {i : α → D} {j : β → D} {l : List α} {k : List β} {a b : E} (h1 : Ev g a m ρ S (.tup (l.map i))) (h2 : Ev g b m ρ S (.tup (k.map j))) : Sr g (.zip a b) m ρ S ((l.zip k).map (pr i j)) := ⟨by
  rw [Src.den, h1.eq]
  show R.bind (b.den g m ρ S) _ = _
  rw [h2.eq, ← zip_map']; rfl⟩
theorem sr_zipl {α β : Type} {i : α → D} {j : β → D} {l : List α} {k : List β} {a b : E} (h1 : Ev g a m ρ S (.lst (l.map i))) (h2 : Ev g b m ρ S (.lst (k.map j))) : Sr g (.zip a b) m ρ S ((l.zip k).map (pr i j)) := ⟨by
  rw [Src.den, h1.eq]
  show R.bind (b.den g m ρ S) _ = _
  rw [h2.eq, ← zip_map']; rfl⟩
theorem sr_dk {i : Nat} {ks : List (List Int)} {ds : List D} (h : Lk ρ i (.v (.dic ks ds))) : Sr g (.dk i) m ρ S (ks.map keyD) := ⟨by rw [Src.den, h.eq]⟩
/-! comprehensions -/
theorem lcGo_fm {α : Type} {f : D → Sx → R (Option D)} {i : α → D} {h : α → Option D} {S : Sx} : ∀ (l : List α), (∀ a ∈ l, f (i a) S = .ok (h a) S) → lcGo f (l.map i) S = .ok (l.filterMap h) S
  | [], _ => rfl
  | a :: l, H => by
    show (f (i a) S).bind _ = _
    rw [H a List.mem_cons_self]
    show (lcGo f (l.map i) S).bind _ = _
    rw [lcGo_fm l fun b hb => H b (List.mem_cons_of_mem _ hb)]
    show R.ok _ S = _
    rw [List.filterMap_cons]
    cases h a <;> rfl
theorem fm_if {α : Type} {i : α → D} {p : α → Bool} : ∀ l : List α, (l.filterMap fun a => if p a = true then some (i a) else none) = (l.filter p).map i
  | [] => rfl
  | a :: l => by
    rw [List.filterMap_cons, List.filter_cons]
    cases p a with
    | true => simp [fm_if l]
    | false => simp [fm_if l]
theorem lc_gen {elt : E} {tg : Tg} {src : Src} {cond : E} {own : List Nat} {α : Type} {i : α → D} {l : List α} {ρ' : α → Rho} {c : α → Bool} {d : α → D} (hs : Sr g src 1 ρ S (l.map i)) (hb : Tb l tg i (wipe ρ own) ρ')
    (hc : ∀ a ∈ l, Ew g cond 0 (ρ' a) S (.bl (c a))) (he : ∀ a ∈ l, c a = true → Ew g elt 0 (ρ' a) S (d a)) : (E.lc elt tg src cond own).den g m ρ S = .ok (.lst ((l.filter c).map d)) S := by
  have e := lcGo_fm (f := fun d S => match tg.bind d (wipe ρ own) with
      | some ρ' => noX (condM (truth (cond.den g 0 ρ' S)) (fun S => elt.den g 0 ρ' S))
      | none => .stuck) (i := i) (S := S) (h := fun a => if c a = true then some (d a) else none) l (fun a ha => by
    show (match tg.bind (i a) (wipe ρ own) with
      | some ρ' => noX (condM (truth (cond.den g 0 ρ' S)) (fun S => elt.den g 0 ρ' S))
      | none => .stuck) = _
    rw [hb.eq a ha]
    show noX (condM (truth (cond.den g 0 (ρ' a) S)) _) = _
    rw [(hc a ha).eq]
    cases hca : c a with
    | false => rfl
    | true =>
      show noX (R.bind (elt.den g 0 (ρ' a) S) _) = _
      rw [(he a ha hca).eq]
      rfl)
  rw [E.den, hs.eq, ← fm_if]
  exact congrArg (fun z => R.bind z fun r S => R.ok (D.lst r) S) e
theorem e_no : Ev g .no 0 ρ S (.bl true) := ⟨rfl⟩
/-- a comprehension that keeps items as they are -/
theorem e_lcid {v : Nat} {src : Src} {cond : E} {own : List Nat} {α : Type} {i : α → D} {l : List α} {ρ' : α → Rho} {c : α → Bool} (hs : Sr g src 1 ρ S (l.map i)) (hb : Tb l (.nm v) i (wipe ρ own) ρ')
    (hc : ∀ a ∈ l, Ew g cond 0 (ρ' a) S (.bl (c a))) (hv : ∀ a, Lk (ρ' a) v (.v (i a))) : Ev g (.lc (.var v) (.nm v) src cond own) m ρ S (.lst ((l.filter c).map i)) :=
  ⟨lc_gen hs hb hc fun a _ _ => ew (e_var (hv a) (by decide)) rfl⟩
theorem e_lcm {elt : E} {tg : Tg} {src : Src} {own : List Nat} {α β : Type} {i : α → D} {l : List α} {ρ' : α → Rho} {d : α → D} {j : β → D} {f : α → β} (hs : Sr g src 1 ρ S (l.map i)) (hb : Tb l tg i (wipe ρ own) ρ')
    (he : ∀ a ∈ l, Ew g elt 0 (ρ' a) S (d a)) (hd : Can l d j f) : Ev g (.lc elt tg src .no own) m ρ S (.lst ((l.map f).map j)) := ⟨by
  rw [lc_gen (c := fun _ => true) hs hb (fun a _ => ew e_no rfl) (fun a ha _ => he a ha), List.filter_eq_self.mpr (fun _ _ => rfl), List.map_map]
  congr 2
  exact List.map_congr_left hd.eq⟩
theorem e_lcf {elt : E} {tg : Tg} {src : Src} {cond : E} {own : List Nat} {α β : Type} {i : α → D} {l : List α} {ρ' : α → Rho} {c : α → Bool} {d : α → D} {j : β → D} {f : α → β} (hs : Sr g src 1 ρ S (l.map i)) (hb : Tb l tg i (wipe ρ own) ρ')
    (hc : ∀ a ∈ l, Ew g cond 0 (ρ' a) S (.bl (c a))) (he : ∀ a ∈ l, c a = true → Ew g elt 0 (ρ' a) S (d a)) (hd : Can l d j f) : Ev g (.lc elt tg src cond own) m ρ S (.lst (((l.filter c).map f).map j)) := ⟨by
  rw [lc_gen hs hb hc he, List.map_map]
  congr 2
  exact List.map_congr_left fun a ha => hd.eq a (List.mem_filter.mp ha).1⟩
theorem can_int {α : Type} {l : List α} {f : α → Int} : Can l (fun a => D.int (f a)) D.int f := ⟨fun _ _ => rfl⟩
theorem can_bl {α : Type} {l : List α} {f : α → Bool} : Can l (fun a => D.bl (f a)) D.bl f := ⟨fun _ _ => rfl⟩
theorem can_tp {α β : Type} {l : List α} {j : β → D} {f : α → List β} : Can l (fun a => D.tup ((f a).map j)) (tp j) f := ⟨fun _ _ => rfl⟩
theorem can_ls {α β : Type} {l : List α} {j : β → D} {f : α → List β} : Can l (fun a => D.lst ((f a).map j)) (ls j) f := ⟨fun _ _ => rfl⟩
theorem can_pr {α β γ : Type} {l : List α} {d1 d2 : α → D} {j : β → D} {k : γ → D} {f : α → β} {h : α → γ} (h1 : Can l d1 j f) (h2 : Can l d2 k h) : Can l (fun a => D.tup [d1 a, d2 a]) (pr j k) (fun a => (f a, h a)) := ⟨fun a ha => by rw [h1.eq a ha, h2.eq a ha]⟩
theorem can_id {α : Type} {l : List α} {j : α → D} : Can l (fun a => j a) j (fun a => a) := ⟨fun _ _ => rfl⟩
theorem can_tp1 {α β : Type} {l : List α} {d : α → D} {j : β → D} {f : α → β} (h : Can l d j f) : Can l (fun a => D.tup [d a]) (tp j) (fun a => [f a]) := ⟨fun a ha => by rw [h.eq a ha]; rfl⟩
theorem tb_nm {α : Type} {l : List α} {v : Nat} {i : α → D} : Tb l (.nm v) i ρ (fun a => ρ.set v (.v (i a))) := ⟨fun _ _ => rfl⟩
theorem tb_pr {α β : Type} {l : List (α × β)} {v w : Nat} {i : α → D} {j : β → D} : Tb l (.tp [v, w]) (pr i j) ρ (fun a => (ρ.set v (.v (i a.1))).set w (.v (j a.2))) := ⟨fun _ _ => rfl⟩
/-! operations -/
theorem b_addi {x y : Int} : Bn .add (.int x) (.int y) (.int (x + y)) := ⟨rfl⟩
theorem b_subi {x y : Int} : Bn .sub (.int x) (.int y) (.int (x - y)) := ⟨rfl⟩
theorem b_addt {α : Type} {i : α → D} {a b : List α} (h : a.length + b.length ≤ 16777216) : Bn .add (.tup (a.map i)) (.tup (b.map i)) (.tup ((a ++ b).map i)) := ⟨by
  show (if (a.map i).length + (b.map i).length ≤ sizeLine then some (D.tup (a.map i ++ b.map i)) else none) = _
  rw [List.length_map, List.length_map, sizeLine_eq, if_pos h, List.map_append]⟩
theorem b_addt1 {α : Type} {i : α → D} {a : List α} {x : α} {d : D} (hd : d = i x) (h : a.length + 1 ≤ 16777216) : Bn .add (.tup (a.map i)) (.tup [d]) (.tup ((a ++ [x]).map i)) := by
  subst hd
  exact b_addt (b := [x]) h
theorem b_addl {α : Type} {i : α → D} {a b : List α} (h : a.length + b.length ≤ 16777216) : Bn .add (.lst (a.map i)) (.lst (b.map i)) (.lst ((a ++ b).map i)) := ⟨by
  show (if (a.map i).length + (b.map i).length ≤ sizeLine then some (D.lst (a.map i ++ b.map i)) else none) = _
  rw [List.length_map, List.length_map, sizeLine_eq, if_pos h, List.map_append]⟩
theorem c_lti {x y : Int} : Cp .lt (.int x) (.int y) (decide (x < y)) := ⟨rfl⟩
theorem c_lei {x y : Int} : Cp .le (.int x) (.int y) (decide (x ≤ y)) := ⟨rfl⟩
theorem c_gti {x y : Int} : Cp .gt (.int x) (.int y) (decide (y < x)) := ⟨rfl⟩
theorem c_gei {x y : Int} : Cp .ge (.int x) (.int y) (decide (y ≤ x)) := ⟨rfl⟩
theorem c_eq {α : Type} [DecidableEq α] {i : α → D} {k : Nat} [Gd i k] {a b : α} (hk : k ≤ 64) : Cp .eq (i a) (i b) (decide (a = b)) := ⟨by
  show (sameD (i a) (i b)).map D.bl = _
  rw [sameD_ok hk]; rfl⟩
theorem c_ne {α : Type} [DecidableEq α] {i : α → D} {k : Nat} [Gd i k] {a b : α} (hk : k ≤ 64) : Cp .ne (i a) (i b) (!decide (a = b)) := ⟨by
  show (sameD (i a) (i b)).map (fun c => D.bl (!c)) = _
  rw [sameD_ok hk]; rfl⟩
theorem c_eqi {x y : Int} : Cp .eq (.int x) (.int y) (decide (x = y)) := c_eq (i := D.int) (by decide)
theorem c_nei {x y : Int} : Cp .ne (.int x) (.int y) (!decide (x = y)) := c_ne (i := D.int) (by decide)
theorem c_eqb {x y : Bool} : Cp .eq (.bl x) (.bl y) (decide (x = y)) := c_eq (i := D.bl) (by decide)
theorem c_neb {x y : Bool} : Cp .ne (.bl x) (.bl y) (!decide (x = y)) := c_ne (i := D.bl) (by decide)
theorem c_eqt {α : Type} [DecidableEq α] {i : α → D} {k : Nat} {a b : List α} [Gd (tp i) k] (hk : k ≤ 64) : Cp .eq (.tup (a.map i)) (.tup (b.map i)) (decide (a = b)) := c_eq (i := tp i) hk
theorem c_net {α : Type} [DecidableEq α] {i : α → D} {k : Nat} {a b : List α} [Gd (tp i) k] (hk : k ≤ 64) : Cp .ne (.tup (a.map i)) (.tup (b.map i)) (!decide (a = b)) := c_ne (i := tp i) hk
theorem c_eql {α : Type} [DecidableEq α] {i : α → D} {k : Nat} {a b : List α} [Gd (ls i) k] (hk : k ≤ 64) : Cp .eq (.lst (a.map i)) (.lst (b.map i)) (decide (a = b)) := c_eq (i := ls i) hk
theorem c_nel {α : Type} [DecidableEq α] {i : α → D} {k : Nat} {a b : List α} [Gd (ls i) k] (hk : k ≤ 64) : Cp .ne (.lst (a.map i)) (.lst (b.map i)) (!decide (a = b)) := c_ne (i := ls i) hk
theorem c_int {α : Type} [DecidableEq α] {i : α → D} {k : Nat} {x : D} {l : List α} {a : α} (hx : x = i a) [Gd i k] (hk : k + 1 ≤ 64) : Cp .inn x (.tup (l.map i)) (decide (a ∈ l)) := ⟨by
  subst hx
  show (memD (i a) (l.map i)).map D.bl = _
  rw [memD_ok hk]; rfl⟩
theorem c_inl {α : Type} [DecidableEq α] {i : α → D} {k : Nat} {x : D} {l : List α} {a : α} (hx : x = i a) [Gd i k] (hk : k + 1 ≤ 64) : Cp .inn x (.lst (l.map i)) (decide (a ∈ l)) := ⟨by
  subst hx
  show (memD (i a) (l.map i)).map D.bl = _
  rw [memD_ok hk]; rfl⟩
theorem c_nint {α : Type} [DecidableEq α] {i : α → D} {k : Nat} {x : D} {l : List α} {a : α} (hx : x = i a) [Gd i k] (hk : k + 1 ≤ 64) : Cp .nin x (.tup (l.map i)) (!decide (a ∈ l)) := ⟨by
  subst hx
  show (memD (i a) (l.map i)).map (fun c => D.bl (!c)) = _
  rw [memD_ok hk]; rfl⟩
theorem c_ninl {α : Type} [DecidableEq α] {i : α → D} {k : Nat} {x : D} {l : List α} {a : α} (hx : x = i a) [Gd i k] (hk : k + 1 ≤ 64) : Cp .nin x (.lst (l.map i)) (!decide (a ∈ l)) := ⟨by
  subst hx
  show (memD (i a) (l.map i)).map (fun c => D.bl (!c)) = _
  rw [memD_ok hk]; rfl⟩
theorem intsD_ok (l : List Int) : intsD (iD l) = some l := by
  induction l with
  | nil => rfl
  | cons a l ih =>
    show (intsD (iD l)).map _ = _
    rw [ih]; rfl
theorem blsD_ok (l : List Bool) : blsD (l.map D.bl) = some l := by
  induction l with
  | nil => rfl
  | cons a l ih =>
    show (blsD (l.map D.bl)).map _ = _
    rw [ih]; rfl
theorem bl_all {α : Type} {l : List α} {p : α → Bool} : Bl .all [.lst ((l.map p).map D.bl)] (.bl (l.all p)) := ⟨by
  show (blsD ((l.map p).map D.bl)).map _ = _
  rw [blsD_ok, Option.map_some, List.all_map]; rfl⟩
theorem bl_any {α : Type} {l : List α} {p : α → Bool} : Bl .any [.lst ((l.map p).map D.bl)] (.bl (l.any p)) := ⟨by
  show (blsD ((l.map p).map D.bl)).map _ = _
  rw [blsD_ok, Option.map_some, List.any_map]; rfl⟩
theorem bl_sum {l : List Int} : Bl .sum [.lst (l.map D.int)] (.int l.sum) := ⟨by
  show (intsD (l.map D.int)).map _ = _
  rw [intsD_ok]; rfl⟩
theorem bl_lent {α : Type} {i : α → D} {l : List α} : Bl .len [.tup (l.map i)] (.int l.length) := ⟨by
  show some (D.int (l.map i).length) = _
  rw [List.length_map]⟩
theorem bl_lenl {α : Type} {i : α → D} {l : List α} : Bl .len [.lst (l.map i)] (.int l.length) := ⟨by
  show some (D.int (l.map i).length) = _
  rw [List.length_map]⟩
theorem bl_lent' {l : List D} : Bl .len [.tup l] (.int l.length) := ⟨rfl⟩
theorem bl_lenl' {l : List D} : Bl .len [.lst l] (.int l.length) := ⟨rfl⟩
theorem bl_tupl {l : List D} : Bl .tuple [.lst l] (.tup l) := ⟨rfl⟩
theorem bl_tupt {l : List D} : Bl .tuple [.tup l] (.tup l) := ⟨rfl⟩
theorem bl_lstl {l : List D} : Bl .list [.lst l] (.lst l) := ⟨rfl⟩
theorem bl_lstt {l : List D} : Bl .list [.tup l] (.lst l) := ⟨rfl⟩
theorem bl_int {i : Int} : Bl .int [.int i] (.int i) := ⟨rfl⟩
theorem od_alikeB {α : Type} [DecidableEq α] {i : α → D} {lt : α → α → Bool} [g : Od i lt] (l : List α) : alikeAllB (D.pys (l.map i)) = true := by
  have h : ∀ l : List α, D.pys (l.map i) = l.map fun a => (i a).py := fun l => by
    induction l with
    | nil => rfl
    | cons a l ih => show (i a).py :: D.pys (l.map i) = _; rw [ih]; rfl
  unfold alikeAllB
  rw [h]
  simp [g.alk]
theorem pysM {α : Type} {i : α → D} : ∀ l : List α, D.pys (l.map i) = l.map fun a => (i a).py
  | [] => rfl
  | a :: l => by show (i a).py :: D.pys (l.map i) = _; rw [pysM l]; rfl
structure Sb {α : Type} (i : α → D) (l : List α) : Prop where
  eq : sortableB (D.pys (l.map i)) = true
theorem sb_int {l : List Int} : Sb D.int l := ⟨by
  unfold sortableB
  rw [pysM, Bool.or_eq_true]
  right
  simp [D.py]⟩
theorem sb_ls {α : Type} {i : α → D} {l : List (List α)} : Sb (ls i) l := ⟨by
  unfold sortableB
  rw [pysM, Bool.or_eq_true]
  right
  simp [D.py]⟩
theorem sb_pr {α β : Type} {i : α → D} {j : β → D} {l : List (α × β)} : Sb (pr i j) l := ⟨by
  unfold sortableB
  rw [pysM, Bool.or_eq_true]
  left
  simp [D.py, D.pys]⟩
theorem sb_tp {α : Type} {i : α → D} {l : List (List α)} (h : ∀ a ∈ l, a ≠ []) : Sb (tp i) l := ⟨by
  unfold sortableB
  rw [pysM, Bool.or_eq_true]
  left
  rw [List.all_map, List.all_eq_true]
  intro a ha
  cases a with
  | nil => exact absurd rfl (h _ ha)
  | cons x a => simp [D.py, D.pys]⟩
theorem od_shB {α : Type} [DecidableEq α] {i : α → D} {k : Nat} [g : Gd i k] (hk : k ≤ 64) (l : List α) : (D.pys (l.map i)).all SeqAt.shaped = true := by
  rw [pysM, List.all_map, List.all_eq_true]
  intro a _
  exact g.sh hk a
theorem sortD_ok {α : Type} [DecidableEq α] {i : α → D} {lt : α → α → Bool} [o : Od i lt] (l : List α) : sortD D.py (l.map i) = (srt lt l).map i := by
  unfold sortD
  rw [← o.sto.merge, List.map_mergeSort (s := PySem.W.dataLe false D.py)]
  intro a _ b _
  show _ = !PySem.W.dataLt (i b).py (i a).py
  rw [o.dlt]
theorem bl_sorted {α : Type} [DecidableEq α] {i : α → D} {l : List α} {k : Nat} {lt : α → α → Bool} [Gd i k] [Od i lt] (hb : Sb i l) (hk : k ≤ 64) : Bl .sorted [.lst (l.map i)] (.lst ((srt lt l).map i)) := ⟨by
  show (if sortOk (D.pys (l.map i)) then some (D.lst (sortD D.py (l.map i))) else none) = _
  have : sortOk (D.pys (l.map i)) = true := by
    unfold sortOk
    rw [od_alikeB, hb.eq, od_shB hk]; rfl
  rw [if_pos this, sortD_ok]⟩
/-! stable sorting by keys -/
theorem insB_filter {α : Type} {le : α → α → Bool} {p : α → Bool} (x : α) (h : p x = true → ∀ y, le x y = false → p y = false) : ∀ l : List α, (insB le x l).filter p = (x :: l).filter p
  | [] => rfl
  | y :: l => by
    unfold insB
    split
    · rfl
    · rename_i e
      rw [List.filter_cons, insB_filter x h l]
      have e' : le x y = false := by simpa using e
      cases hx : p x with
      | true => simp [List.filter_cons, hx, h hx y e']
      | false => simp [List.filter_cons, hx]
theorem isort_stable {α : Type} {le : α → α → Bool} (tr : ∀ a b c, le a b = true → le b c = true → le a c = true) (c : α) : ∀ l : List α, (isort le l).filter (PySem.W.sameRank le c) = l.filter (PySem.W.sameRank le c)
  | [] => rfl
  | x :: l => by
    unfold isort
    rw [insB_filter x ?_, List.filter_cons, List.filter_cons, isort_stable tr c l]
    intro hx y hy
    unfold PySem.W.sameRank at *
    rw [Bool.and_eq_true] at hx
    cases e : (le c y && le y c) with
    | false => rfl
    | true =>
      rw [Bool.and_eq_true] at e
      rw [tr x c y hx.2 e.1] at hy
      cases hy
theorem merge_stable {α : Type} {le : α → α → Bool} (h : PySem.W.TotalLe le) (l : List α) : l.mergeSort le = isort le l :=
  (PySem.W.sort_unique h (isort_sorted h.trans (fun a b => h.total a b) l) (isort_stable h.trans · l)).symm
abbrev leBy {α β : Type} (lt : β → β → Bool) (κ : α → β) : α → α → Bool := fun a b => !lt (κ b) (κ a)
theorem Sto.by {α β : Type} {lt : β → β → Bool} (h : Sto lt) (κ : α → β) : PySem.W.TotalLe (leBy lt κ) where
  trans a b c h1 h2 := h.le_tr (κ a) (κ b) (κ c) h1 h2
  total a b := h.le_tot (κ a) (κ b)
theorem sortBy_ok {α β : Type} [DecidableEq β] {i : α → D} {j : β → D} {lt : β → β → Bool} [o : Od j lt] (κ : α → β) (l : List α) : sortBy (l.map i) ((l.map κ).map j) = (isort (leBy lt κ) l).map i := by
  unfold sortBy
  rw [List.map_map, List.zip_map', ← merge_stable (o.sto.by κ), ← List.map_mergeSort (r := leBy lt κ), List.map_map]
  · rfl
  · intro a _ b _
    show (!lt (κ b) (κ a)) = !PySem.W.dataLt (j (κ b)).py (j (κ a)).py
    rw [o.dlt]
theorem e_sortk {T : Tab} {n k : Nat} {e : E} {α β : Type} [DecidableEq β] {i : α → D} {j : β → D} {d : α → D} {κ : α → β} {lt : β → β → Bool} {q : Nat} {l : List α} (h : Ev (gAt T n) e 1 ρ S (.lst (l.map i)))
    (hk : ∀ a ∈ l, Cw T n k [i a] S (d a)) (hd : Can l d j κ) (hf : T.fr k = false) (hb : Sb j (l.map κ)) [Gd j q] (hq : q ≤ 64) [Od j lt] : Ev (gAt T n) (.sortk e k) m ρ S (.lst ((isort (leBy lt κ) l).map i)) := ⟨by
  have e1 : lcGo (keyF (gAt T n) k) (l.map i) S = .ok ((l.map κ).map j) S := by
    rw [lcGo_fm (h := fun a => some (j (κ a))) l]
    · rw [List.filterMap_eq_map', List.map_map]; rfl
    · intro a ha
      unfold keyF G.call0
      rw [if_neg (by show ¬ T.fr k = true; rw [hf]; decide)]
      show R.bind (run T n false k [i a] S) _ = _
      rw [(hk a ha).eq, hd.eq a ha]
      rfl
  rw [E.den, h.eq]
  show (noX (lcGo (keyF (gAt T n) k) (l.map i) S)).bind _ = _
  rw [e1]
  show (if sortOk (D.pys ((l.map κ).map j)) then R.ok (D.lst (sortBy (l.map i) ((l.map κ).map j))) S else .stuck) = _
  have : sortOk (D.pys ((l.map κ).map j)) = true := by
    unfold sortOk
    rw [od_alikeB, hb.eq, od_shB hq]; rfl
  rw [if_pos this, sortBy_ok]⟩
/-! statements -/
def Ss.app : Ss → Ss → Ss
  | .nil, b => b
  | .cons s a, b => .cons s (a.app b)
theorem den_app : ∀ (a b : Ss) (ρ : Rho) (S : Sx), (a.app b).den g ρ S = (a.den g ρ S).next? fun ρ S => b.den g ρ S
  | .nil, b, ρ, S => by rw [Ss.den]; rfl
  | .cons s a, b, ρ, S => by
    show (Ss.cons s (a.app b)).den g ρ S = _
    rw [Ss.den, Ss.den]
    cases s.den g ρ S with
    | next ρ' S' => exact den_app a b ρ' S'
    | _ => rfl
variable {ss : Ss} {r : RS}
theorem s_ret {e : E} {d : D} (h : Ev g e 0 ρ S d) : Sv g (.cons (.ret e) ss) ρ S (.ret false d S) := ⟨by rw [Ss.den, S.den, h.eq]; rfl⟩
theorem s_ret' {e : E} {d d' : D} (h : Ev g e 0 ρ S d) (hd : d = d') : Sv g (.cons (.ret e) ss) ρ S (.ret false d' S) := hd ▸ s_ret h
theorem s_nil : Sv g .nil ρ S (.next ρ S) := ⟨rfl⟩
theorem s_asg {i : Nat} {e : E} {d : D} (h : Ev g e 0 ρ S d) (h2 : Sv g ss (ρ.set i (.v d)) S r) : Sv g (.cons (.asg (.nm i) e) ss) ρ S r := ⟨by rw [Ss.den, S.den, h.eq]; exact h2.eq⟩
theorem s_asgt {is : List Nat} {e : E} {ds : List D} {ρ' : Rho} (h : Ev g e 0 ρ S (.tup ds)) (hb : bindAll is ds ρ = some ρ') (h2 : Sv g ss ρ' S r) : Sv g (.cons (.asg (.tp is) e) ss) ρ S r := ⟨by
  rw [Ss.den, S.den, h.eq]
  show RS.next? (RS.opt S (bindAll is ds ρ)) _ = _
  rw [hb]; exact h2.eq⟩
theorem s_asgb {i : Nat} {e : E} {ds : List D} (h : Ev g e 2 ρ S (.lst ds)) (h2 : Sv g ss (ρ.set i (.b ds)) S r) : Sv g (.cons (.asgb i e) ss) ρ S r := ⟨by rw [Ss.den, S.den, h.eq]; exact h2.eq⟩
theorem s_par {is : List Nat} {es : Es} {ds : List D} {ρ' : Rho} (h : Evs g es 0 ρ S ds) (hb : bindAll is.reverse ds.reverse ρ = some ρ') (h2 : Sv g ss ρ' S r) : Sv g (.cons (.par is es) ss) ρ S r := ⟨by
  rw [Ss.den, S.den, h.eq]
  show RS.next? (RS.opt S (bindAll is.reverse ds.reverse ρ)) _ = _
  rw [hb]; exact h2.eq⟩
theorem s_frz {i : Nat} {ds : List D} (h : Lk ρ i (.b ds)) (h2 : Sv g ss (ρ.set i (.v (.lst ds))) S r) : Sv g (.cons (.frz i) ss) ρ S r := ⟨by
  rw [Ss.den, S.den]
  show RS.next? (boxAt ρ i _) _ = _
  unfold boxAt
  rw [h.eq]; exact h2.eq⟩
theorem s_frzd {i : Nat} {kvs : List (List Int × D)} (h : Lk ρ i (.dd kvs)) (h2 : Sv g ss (ρ.set i (.v (.dic (kvs.map (·.1)) (kvs.map (·.2))))) S r) : Sv g (.cons (.frzd i) ss) ρ S r := ⟨by
  rw [Ss.den, S.den, h.eq]; exact h2.eq⟩
theorem s_app {i : Nat} {e : E} {ds : List D} {d : D} (h : Ev g e 0 ρ S d) (hi : Lk ρ i (.b ds)) (hl : ds.length < 16777216) (h2 : Sv g ss (ρ.set i (.b (ds ++ [d]))) S r) : Sv g (.cons (.app i e) ss) ρ S r := ⟨by
  rw [Ss.den, S.den]
  show RS.next? (boxAt ρ i _) _ = _
  unfold boxAt
  rw [hi.eq]
  show RS.next? ((e.den g 0 ρ S).toS _) _ = _
  rw [h.eq]
  show RS.next? (if ds.length < sizeLine then _ else _) _ = _
  rw [sizeLine_eq, if_pos hl]
  exact h2.eq⟩
theorem s_ext {i : Nat} {e : E} {ds es : List D} (h : Ev g e 2 ρ S (.lst es)) (hi : Lk ρ i (.b ds)) (hl : ds.length + es.length ≤ 16777216) (h2 : Sv g ss (ρ.set i (.b (ds ++ es))) S r) : Sv g (.cons (.ext i e) ss) ρ S r := ⟨by
  rw [Ss.den, S.den]
  show RS.next? (boxAt ρ i _) _ = _
  unfold boxAt
  rw [hi.eq]
  show RS.next? ((e.den g 2 ρ S).toS _) _ = _
  rw [h.eq]
  show RS.next? (if ds.length + es.length ≤ sizeLine then _ else _) _ = _
  rw [sizeLine_eq, if_pos hl]
  exact h2.eq⟩
theorem s_expr {e : E} {d : D} (h : Ev g e 0 ρ S d) (h2 : Sv g ss ρ S r) : Sv g (.cons (.expr e) ss) ρ S r := ⟨by rw [Ss.den, S.den, h.eq]; exact h2.eq⟩
theorem s_ite {c : E} {a b : Ss} {p : Bool} (h : Ev g c 0 ρ S (.bl p)) (h1 : p = true → Sv g (a.app ss) ρ S r) (h2 : p = false → Sv g (b.app ss) ρ S r) : Sv g (.cons (.ite c a b) ss) ρ S r := ⟨by
  rw [Ss.den, S.den, h.eq]
  cases p with
  | true => exact (den_app a ss ρ S).symm.trans (h1 rfl).eq
  | false => exact (den_app b ss ρ S).symm.trans (h2 rfl).eq⟩
theorem s_iteT {c : E} {a b : Ss} (h : Ev g c 0 ρ S (.bl true)) (h1 : Sv g (a.app ss) ρ S r) : Sv g (.cons (.ite c a b) ss) ρ S r := s_ite h (fun _ => h1) (fun h => by cases h)
theorem s_iteF {c : E} {a b : Ss} (h : Ev g c 0 ρ S (.bl false)) (h1 : Sv g (b.app ss) ρ S r) : Sv g (.cons (.ite c a b) ss) ρ S r := s_ite h (fun h => by cases h) (fun _ => h1)
theorem s_raise {c : Nat} {x : Str} : Sv g (.cons (.raise c x) ss) ρ S (.exc c (some (.str x)) S) := ⟨by rw [Ss.den, S.den]; rfl⟩
theorem tu_nm {v : Nat} {body : Ss} {d : D} {ρ2 : Rho} (h : Sv g body (ρ.set v (.v d)) S (.next ρ2 S)) : Tu g (.nm v) body d ρ S ρ2 := ⟨_, rfl, h.eq⟩
theorem tu_tp2 {v w : Nat} {body : Ss} {a b : D} {ρ2 : Rho} (h : Sv g body ((ρ.set v (.v a)).set w (.v b)) S (.next ρ2 S)) : Tu g (.tp [v, w]) body (.tup [a, b]) ρ S ρ2 := ⟨_, rfl, h.eq⟩
/-- a loop: what each turn does, behind all the turns ahead of it -/
theorem s_for {t : Tg} {src : Src} {body : Ss} {kill : List Nat} {α σ ζ : Type} {i : α → D} {l : List α} (mk : σ → ζ → Rho) (step : σ → α → σ) (s0 : σ) (z0 : ζ) {ρ1 : Rho}
    (hs : Sr g src 0 ρ S (l.map i)) (h0 : ρ = mk s0 z0)
    (hb : ∀ pre a post, l = pre ++ a :: post → ∀ z, ∃ z', Tu g t body (i a) (mk (pre.foldl step s0) z) S (mk (step (pre.foldl step s0) a) z'))
    (hw : ∀ z, wipe (mk (l.foldl step s0) z) kill = ρ1) (h2 : Sv g ss ρ1 S r) : Sv g (.cons (.for_ t src body kill) ss) ρ S r := ⟨by
  have key : ∀ (post pre : List α) (z : ζ), l = pre ++ post → ∃ z', forGo (fun d ρ S => match t.bind d ρ with
      | some ρ' => body.den g ρ' S
      | none => .stuck) (post.map i) (mk (pre.foldl step s0) z) S = .next (mk (l.foldl step s0) z') S := by
    intro post
    induction post with
    | nil => intro pre z e; rw [List.append_nil] at e; subst e; exact ⟨z, rfl⟩
    | cons a post ih =>
      intro pre z e
      obtain ⟨z', ⟨ρ', e1, e2⟩⟩ := hb pre a post e z
      have e3 : l = (pre ++ [a]) ++ post := by rw [e]; simp
      obtain ⟨z2, e4⟩ := ih (pre ++ [a]) z' e3
      refine ⟨z2, ?_⟩
      show RS.next? (match t.bind (i a) (mk (pre.foldl step s0) z) with
        | some ρ' => body.den g ρ' S
        | none => .stuck) _ = _
      rw [e1]
      show RS.next? (body.den g ρ' S) _ = _
      rw [e2]
      rw [List.foldl_append] at e4
      exact e4
  obtain ⟨z', e⟩ := key l [] z0 rfl
  rw [Ss.den, S.den, hs.eq, h0]
  have e' := congrArg (fun q => RS.next? (RS.next? q fun ρ S => .next (wipe ρ kill) S) fun ρ S => ss.den g ρ S) e
  refine e'.trans ?_
  show ss.den g (wipe (mk (l.foldl step s0) z') kill) S = r
  rw [hw]
  exact h2.eq⟩
theorem cl_mk {T : Tab} {n k : Nat} {ds : List D} {d : D} {b : Ss} {ρ : Rho} (he : run T (n + 1) false k ds S = endFn false (b.den (gAt T n) ρ S)) (h : Sv (gAt T n) b ρ S (.ret false d S)) : Cl T (n + 1) k ds S d := ⟨by rw [he, h.eq]; rfl⟩
theorem cl_mkN {T : Tab} {n k : Nat} {ds : List D} {b : Ss} {ρ ρ' : Rho} (he : run T (n + 1) false k ds S = endFn false (b.den (gAt T n) ρ S)) (h : Sv (gAt T n) b ρ S (.next ρ' S)) : Cl T (n + 1) k ds S .non := ⟨by rw [he, h.eq]; rfl⟩
theorem lk {s : Sl} {i : Nat} (h : ρ[i]? = some s) : Lk ρ i s := ⟨h⟩
end
end Pu

/-! ======== N3 ======== -/
namespace Pu
open PySem
local macro_rules | `(tactic| and_intros) => `(tactic| repeat' first
  | exact nt0 | exact nt1 | exact nt2 | exact Nat.zero_lt_two | exact Nat.one_lt_two
  | exact e_var ⟨rfl⟩ Nat.zero_lt_two | exact e_var ⟨rfl⟩ Nat.one_lt_two | exact e_varb ⟨rfl⟩
  | apply e_int | apply e_bl | apply e_non | apply e_str | apply e_gfn | apply e_gint
  | exact es_nil | apply es_cons | apply e_tup | apply e_lst | apply e_bin | apply e_neg | apply e_cmp | apply e_chain | apply e_isN
  | apply e_and | apply e_or | apply e_not | apply e_ite | apply e_call | apply e_blt | apply e_isin | apply e_fld | apply e_idx
  | apply e_lcid | apply e_lcm | apply e_lcf | apply e_sortk
  | exact cl_inst | exact fd_inst | exact ix0 | exact ix1 | exact ix2
  | apply ew | apply cw
  | apply e_tupS | apply e_lstS | apply sr_rng1 | apply sr_rng2 | apply sr_enum | apply sr_zipt | apply sr_zipl | exact sr_dk ⟨rfl⟩ | apply sr_ex
  | exact tb_nm | exact tb_pr
  | exact can_int | exact can_bl | exact can_tp | exact can_ls | exact can_id | apply can_pr | apply can_tp1
  | exact e_no | exact lk rfl
  | exact b_addi | exact b_subi | apply b_addt | apply b_addl | apply b_addt1
  | exact c_lti | exact c_lei | exact c_gti | exact c_gei | exact c_eqi | exact c_nei | exact c_eqb | exact c_neb
  | exact c_eqt (by decide) | exact c_net (by decide) | exact c_eql (by decide) | exact c_nel (by decide)
  | exact c_int rfl (by decide) | exact c_inl rfl (by decide) | exact c_nint rfl (by decide) | exact c_ninl rfl (by decide)
  | exact bl_all | exact bl_any | exact bl_sum | exact bl_lent | exact bl_lenl | exact bl_lent' | exact bl_lenl' | exact bl_tupl | exact bl_tupt | exact bl_lstl | exact bl_lstt | exact bl_int
  | exact bl_sorted sb_int (by decide) | exact bl_sorted sb_pr (by decide) | exact bl_sorted sb_ls (by decide)
  | exact sb_int | exact sb_pr | exact sb_ls
  | apply s_ret | apply s_asg | apply s_asgb | apply s_asgt | apply s_par | exact s_nil | (refine s_frz ⟨rfl⟩ ?_) | (refine s_frzd ⟨rfl⟩ ?_) | apply s_expr
  | assumption
  | rfl
  | omega
  | intro _)
/-! dicts whose keys are rows of numbers -/
def look {β : Type} (l : List (List Int × β)) (k : List Int) : Option β := (l.find? fun kv => decide (kv.1 = k)).map (·.2)
def put {β : Type} (l : List (List Int × β)) (k : List Int) (v : β) : List (List Int × β) := if (l.any fun kv => decide (kv.1 = k)) = true then l.map (fun kv => if kv.1 = k then (kv.1, v) else kv) else l ++ [(k, v)]
abbrev kvD {β : Type} (j : β → D) (l : List (List Int × β)) : List (List Int × D) := l.map fun p => (p.1, j p.2)
theorem dlook_map {β : Type} (j : β → D) (k : List Int) : ∀ l : List (List Int × β), dlook (kvD j l) k = (look l k).map j
  | [] => rfl
  | p :: l => by
    have ih := dlook_map j k l
    unfold dlook look at *
    show Option.map (fun x => x.2) (List.find? (fun kv => decide (kv.1 = k)) ((p.1, j p.2) :: kvD j l)) = _
    rw [List.find?_cons, List.find?_cons]
    cases h : decide (p.1 = k) with
    | true => rfl
    | false => exact ih
theorem dput_map {β : Type} (j : β → D) (k : List Int) (v : β) (l : List (List Int × β)) : dput (kvD j l) k (j v) = kvD j (put l k v) := by
  unfold dput put
  rw [List.any_map]
  by_cases h : (l.any fun kv => decide (kv.1 = k)) = true
  · have h' : (l.any ((fun kv => decide (kv.1 = k)) ∘ fun p => (p.1, j p.2))) = true := h
    rw [if_pos h, if_pos h', kvD, kvD, List.map_map, List.map_map]
    refine List.map_congr_left fun p _ => ?_
    show (if p.1 = k then (p.1, j v) else (p.1, j p.2)) = ((if p.1 = k then (p.1, v) else p).1, j (if p.1 = k then (p.1, v) else p).2)
    split <;> rfl
  · have h' : ¬ (l.any ((fun kv => decide (kv.1 = k)) ∘ fun p => (p.1, j p.2))) = true := h
    rw [if_neg h, if_neg h']
    simp [kvD]
theorem look_put {β : Type} (k : List Int) (v : β) (k' : List Int) : ∀ l : List (List Int × β), look (put l k v) k' = if k' = k then some v else look l k' := by
  intro l
  unfold put
  by_cases h : (l.any fun kv => decide (kv.1 = k)) = true
  · rw [if_pos h]
    induction l with
    | nil => simp at h
    | cons p l ih =>
      unfold look at *
      rw [List.map_cons, List.find?_cons, List.find?_cons]
      by_cases hp : p.1 = k
      · rw [if_pos hp]
        by_cases hk : k' = k
        · have : decide (p.1 = k') = true := by rw [hp, hk]; simp
          simp [this, hk, hp]
        · have h1 : decide (p.1 = k') = false := by rw [hp]; simp; exact fun e => hk e.symm
          simp only [h1, if_neg hk]
          by_cases hl : (l.any fun kv => decide (kv.1 = k)) = true
          · have := ih hl
            rw [if_neg hk] at this
            exact this
          · have : l.map (fun kv => if kv.1 = k then (kv.1, v) else kv) = l := by
              refine (List.map_congr_left fun q hq => ?_).trans (List.map_id l)
              have : ¬ q.1 = k := fun e => hl (List.any_eq_true.mpr ⟨q, hq, by simp [e]⟩)
              rw [if_neg this]; rfl
            rw [this]
      · rw [if_neg hp]
        have hl : (l.any fun kv => decide (kv.1 = k)) = true := by
          rw [List.any_cons] at h
          simpa [hp] using h
        by_cases hq : p.1 = k'
        · have : ¬ k' = k := fun e => hp (hq.trans e)
          simp [hq, this]
        · simp only [hq, decide_false]
          exact ih hl
  · rw [if_neg h]
    have hn : ∀ q ∈ l, ¬ q.1 = k := fun q hq e => h (List.any_eq_true.mpr ⟨q, hq, by simp [e]⟩)
    unfold look
    rw [List.find?_append]
    by_cases hk : k' = k
    · subst hk
      have : l.find? (fun kv => decide (kv.1 = k')) = none := List.find?_eq_none.mpr fun q hq => by simp [hn q hq]
      rw [this, if_pos rfl]
      simp
    · rw [if_neg hk]
      have : ([(k, v)] : List (List Int × β)).find? (fun kv => decide (kv.1 = k')) = none := List.find?_eq_none.mpr fun q hq => by
        have := List.mem_singleton.mp hq
        subst this
        simp
        exact fun e => hk e.symm
      rw [this, Option.or_none]
theorem put_len {β : Type} (k : List Int) (v : β) (l : List (List Int × β)) : (put l k v).length ≤ l.length + 1 := by
  unfold put
  split <;> simp
theorem put_keys {β : Type} (k : List Int) (v : β) (l : List (List Int × β)) (h : (l.map (·.1)).Nodup) : ((put l k v).map (·.1)).Nodup := by
  unfold put
  split
  · rename_i e
    rw [List.map_map]
    have : (l.map ((fun x => x.1) ∘ fun kv => if kv.1 = k then (kv.1, v) else kv)) = l.map (·.1) := List.map_congr_left fun q _ => by
      show (if q.1 = k then (q.1, v) else q).1 = q.1
      split <;> rfl
    rw [this]; exact h
  · rename_i e
    rw [List.map_append, List.nodup_append]
    refine ⟨h, by simp, fun a ha b hb => ?_⟩
    rw [List.mem_map] at ha
    obtain ⟨q, hq, rfl⟩ := ha
    have : b = k := by simpa using hb
    subst this
    exact fun z => e (List.any_eq_true.mpr ⟨q, hq, by simp [z]⟩)
theorem look_mem {β : Type} {k : List Int} {v : β} {l : List (List Int × β)} (h : look l k = some v) : (k, v) ∈ l := by
  unfold look at h
  cases e : l.find? (fun kv => decide (kv.1 = k)) with
  | none => rw [e] at h; cases h
  | some p =>
    rw [e] at h
    have h1 := List.mem_of_find?_eq_some e
    have h2 := List.find?_some e
    obtain ⟨a, b⟩ := p
    simp at h h2
    subst h; subst h2
    exact h1
theorem look_key {β : Type} {k : List Int} {l : List (List Int × β)} (h : k ∈ l.map (·.1)) : ∃ v, look l k = some v := by
  rw [List.mem_map] at h
  obtain ⟨p, hp, rfl⟩ := h
  cases e : l.find? (fun kv => decide (kv.1 = p.1)) with
  | none => exact absurd (List.find?_eq_none.mp e p hp) (by simp)
  | some q => exact ⟨q.2, by unfold look; rw [e]; rfl⟩
theorem zip_unzip' {α β : Type} : ∀ l : List (α × β), (l.map (·.1)).zip (l.map (·.2)) = l
  | [] => rfl
  | p :: l => by simp [zip_unzip' l]
section
variable {g : G} {m : Nat} {ρ : Rho} {S : Sx} {ss : Ss} {r : RS}
theorem keyOf_ok (l : List Int) : keyOf (iT l) = some l := intsD_ok l
theorem s_asgd {i : Nat} (h : Sv g ss (ρ.set i (.dd [])) S r) : Sv g (.cons (.asgd i) ss) ρ S r := ⟨by rw [Ss.den, S.den]; exact h.eq⟩
theorem s_putd {i : Nat} {k e : E} {β : Type} {j : β → D} {l : List (List Int × β)} {key : List Int} {v : β} (h1 : Ev g e 0 ρ S (j v)) (hi : Lk ρ i (.dd (kvD j l))) (h2 : Ev g k 0 ρ S (iT key)) (hl : l.length < 16777216)
    (h : Sv g ss (ρ.set i (.dd (kvD j (put l key v)))) S r) : Sv g (.cons (.putd i k e) ss) ρ S r := ⟨by
  rw [Ss.den, S.den, h1.eq]
  show RS.next? (match ρ[i]? with | some (.dd kvs) => _ | _ => _) _ = _
  rw [hi.eq]
  show RS.next? (R.toS (k.den g 0 ρ S) _) _ = _
  rw [h2.eq]
  show RS.next? (match keyOf (iT key) with | some k => _ | none => _) _ = _
  rw [keyOf_ok]
  show RS.next? (if (kvD j l).length < sizeLine then _ else _) _ = _
  rw [List.length_map, sizeLine_eq, if_pos hl, dput_map]
  exact h.eq⟩
theorem e_dgd {i : Nat} {k d : E} {β : Type} {j : β → D} {l : List (List Int × β)} {key : List Int} {v : β} (hm : m < 2) (hi : Lk ρ i (.dd (kvD j l))) (h2 : Ev g k 0 ρ S (iT key)) (h3 : Ev g d 0 ρ S (j v)) : Ev g (.dgd i k d) m ρ S (j ((look l key).getD v)) := ⟨by
  rw [E.den, onlyNew_ok hm]
  unfold onD dictAt
  rw [hi.eq]
  show R.bind (k.den g 0 ρ S) _ = _
  rw [h2.eq]
  show R.bind (d.den g 0 ρ S) _ = _
  rw [h3.eq]
  show onK (iT key) _ = _
  unfold onK
  rw [keyOf_ok]
  show R.ok ((dlook (kvD j l) key).getD (j v)) S = _
  rw [dlook_map]
  cases look l key <;> rfl⟩
theorem e_dix {i : Nat} {k : E} {β : Type} {j : β → D} {l : List (List Int × β)} {key : List Int} {v : β} (hm : m < 2) (hi : Lk ρ i (.v (.dic ((kvD j l).map (·.1)) ((kvD j l).map (·.2))))) (h2 : Ev g k 0 ρ S (iT key)) (hv : look l key = some v) : Ev g (.dix i k) m ρ S (j v) := ⟨by
  rw [E.den, onlyNew_ok hm]
  unfold onD dictAt
  rw [hi.eq]
  show R.bind (k.den g 0 ρ S) _ = _
  rw [h2.eq]
  show onK (iT key) _ = _
  unfold onK
  rw [keyOf_ok]
  show R.of S (dlook (((kvD j l).map (·.1)).zip ((kvD j l).map (·.2))) key) = _
  rw [zip_unzip', dlook_map, hv]; rfl⟩
theorem e_dls {i : Nat} {β : Type} {j : β → D} {l : List (List Int × β)} (hi : Lk ρ i (.v (.dic ((kvD j l).map (·.1)) ((kvD j l).map (·.2))))) : Ev g (.dls i) m ρ S (.lst ((l.map (·.1)).map iT)) := ⟨by
  rw [E.den]
  unfold dictAt
  rw [hi.eq]
  show R.ok (D.lst ((((kvD j l).map (·.1)).zip ((kvD j l).map (·.2))).map fun kv => keyD kv.1)) S = _
  rw [zip_unzip', List.map_map, List.map_map]
  rfl⟩
end
/-! what a loop gathers -/
theorem foldl_flat {α β : Type} (f : α → List β) : ∀ (l : List α) (acc : List β), l.foldl (fun acc a => acc ++ f a) acc = acc ++ l.flatMap f
  | [], acc => by simp
  | a :: l, acc => by rw [List.foldl_cons, foldl_flat f l, List.flatMap_cons, List.append_assoc]
theorem foldl_filter' {α β : Type} (p : α → Bool) (f : β → α → β) : ∀ (l : List α) (acc : β), l.foldl (fun acc a => if p a = true then f acc a else acc) acc = (l.filter p).foldl f acc
  | [], _ => rfl
  | a :: l, acc => by
    rw [List.foldl_cons, List.filter_cons, foldl_filter' p f l]
    split <;> rfl
/-! the classes of things -/
abbrev metL (marks row : List Int) : List Int := marks.filter fun x => decide (x ∈ row)
abbrev inL (a b : List Int) : Bool := a.all fun x => decide (x ∈ b)
abbrev enumL (rows : List (List Int)) : List (Int × List Int) := rows.zipIdx.map fun p => ((p.2 : Int), p.1)
def clStep (marks : List Int) (acc : List (List Int × List Int)) (p : Int × List Int) : List (List Int × List Int) := put acc (metL marks p.2) ((look acc (metL marks p.2)).getD [] ++ [p.1])
def clKv (marks : List Int) (ps : List (Int × List Int)) : List (List Int × List Int) := ps.foldl (clStep marks) []
/-- those with the same marks as k -/
def alikeL (marks : List Int) (ps : List (Int × List Int)) (k : List Int) : List Int := (ps.filter fun p => decide (metL marks p.2 = k)).map (·.1)
def clL (marks : List Int) (rows : List (List Int)) : List (List Int) := ((clKv marks (enumL rows)).map (·.1)).map (alikeL marks (enumL rows))
def classes (marks : List Int) (rows : List (List Int)) : List (List Int) := srt ltS (clL marks rows)
theorem clKv_snoc (marks : List Int) (ps : List (Int × List Int)) (p : Int × List Int) : clKv marks (ps ++ [p]) = clStep marks (clKv marks ps) p := by unfold clKv; rw [List.foldl_append]; rfl
theorem snoc_ind {α : Type} {P : List α → Prop} (h0 : P []) (h1 : ∀ l a, P l → P (l ++ [a])) : ∀ l, P l := by
  intro l
  have : ∀ m : List α, P m.reverse := fun m => by
    induction m with
    | nil => exact h0
    | cons a m ih => rw [List.reverse_cons]; exact h1 _ _ ih
  have := this l.reverse
  rwa [List.reverse_reverse] at this
theorem alikeL_snoc (marks : List Int) (ps : List (Int × List Int)) (p : Int × List Int) (k : List Int) : alikeL marks (ps ++ [p]) k = if k = metL marks p.2 then alikeL marks ps k ++ [p.1] else alikeL marks ps k := by
  unfold alikeL
  rw [List.filter_append, List.map_append]
  by_cases h : k = metL marks p.2
  · rw [if_pos h]
    simp [h]
  · rw [if_neg h]
    have : ¬ metL marks p.2 = k := fun e => h e.symm
    simp [this]
theorem clKv_look (marks : List Int) (ps : List (Int × List Int)) : ∀ k, look (clKv marks ps) k = if alikeL marks ps k = [] then none else some (alikeL marks ps k) := by
  refine snoc_ind (P := fun ps => ∀ k, look (clKv marks ps) k = if alikeL marks ps k = [] then none else some (alikeL marks ps k)) (fun k => rfl) (fun ps p ih k => ?_) ps
  rw [clKv_snoc]
  unfold clStep
  rw [look_put, alikeL_snoc, ih, ih]
  by_cases h : k = metL marks p.2
  · subst h
    simp only [if_true]
    by_cases e : alikeL marks ps (metL marks p.2) = [] <;> simp [e]
  · simp only [if_neg h]
theorem clKv_nodup (marks : List Int) (ps : List (Int × List Int)) : ((clKv marks ps).map (·.1)).Nodup :=
  snoc_ind (P := fun ps => ((clKv marks ps).map (·.1)).Nodup) List.nodup_nil (fun ps p ih => by rw [clKv_snoc]; exact put_keys _ _ _ ih) ps
theorem clKv_len (marks : List Int) (ps : List (Int × List Int)) : (clKv marks ps).length ≤ ps.length :=
  snoc_ind (P := fun ps => (clKv marks ps).length ≤ ps.length) (Nat.le_refl _) (fun ps p ih => by
    rw [clKv_snoc, List.length_append]
    have := put_len (metL marks p.2) ((look (clKv marks ps) (metL marks p.2)).getD [] ++ [p.1]) (clKv marks ps)
    exact Nat.le_trans this (Nat.succ_le_succ ih)) ps
theorem alikeL_len (marks : List Int) (ps : List (Int × List Int)) (k : List Int) : (alikeL marks ps k).length ≤ ps.length := by
  unfold alikeL
  rw [List.length_map]
  exact List.length_filter_le _ _
theorem clKv_key {marks : List Int} {ps : List (Int × List Int)} {k : List Int} (h : k ∈ (clKv marks ps).map (·.1)) : look (clKv marks ps) k = some (alikeL marks ps k) ∧ alikeL marks ps k ≠ [] := by
  obtain ⟨v, hv⟩ := look_key h
  have := clKv_look marks ps k
  rw [hv] at this
  split at this
  · cases this
  · rename_i e
    rw [hv, this]
    exact ⟨rfl, e⟩
theorem clKv_mem {marks : List Int} {ps : List (Int × List Int)} {p : Int × List Int} (h : p ∈ ps) : metL marks p.2 ∈ (clKv marks ps).map (·.1) := by
  have hm : p.1 ∈ alikeL marks ps (metL marks p.2) := by
    unfold alikeL
    exact List.mem_map.mpr ⟨p, List.mem_filter.mpr ⟨h, by simp⟩, rfl⟩
  have e := clKv_look marks ps (metL marks p.2)
  rw [if_neg (List.ne_nil_of_mem hm)] at e
  exact List.mem_map.mpr ⟨_, look_mem e, rfl⟩
theorem clL_ne {marks : List Int} {rows : List (List Int)} : ∀ c ∈ clL marks rows, c ≠ [] := fun c hc => by
  unfold clL at hc
  obtain ⟨k, hk, rfl⟩ := List.mem_map.mp hc
  exact (clKv_key hk).2
theorem flat_len {α : Type} {b : Nat} : ∀ {l : List (List α)}, (∀ c ∈ l, c.length ≤ b) → l.flatten.length ≤ b * l.length
  | [], _ => by simp
  | c :: l, h => by
    rw [List.flatten_cons, List.length_append, List.length_cons, Nat.mul_succ]
    have h1 := h c List.mem_cons_self
    have h2 := flat_len fun d hd => h d (List.mem_cons_of_mem c hd)
    omega
theorem foldl_if_flat {α : Type} (p : List α → Bool) (l : List (List α)) : l.foldl (fun acc a => if p a = true then acc ++ a else acc) [] = (l.filter p).flatten := by
  rw [foldl_filter' p (fun acc a => acc ++ a), foldl_flat (fun a => a)]
  simp [List.flatMap_id']
theorem classes_mem {marks : List Int} {rows : List (List Int)} {c : List Int} : c ∈ classes marks rows ↔ c ∈ clL marks rows := (srt_perm _ _).mem_iff
theorem classes_len {marks : List Int} {rows : List (List Int)} : (classes marks rows).length ≤ rows.length := by
  have h := (srt_perm ltS (clL marks rows)).length_eq
  have h2 := clKv_len marks (enumL rows)
  have h3 : (enumL rows).length = rows.length := by simp [enumL]
  unfold classes
  rw [h]
  unfold clL
  rw [List.length_map, List.length_map]
  omega
theorem classes_le {marks : List Int} {rows : List (List Int)} : ∀ c ∈ classes marks rows, c.length ≤ rows.length := fun c hc => by
  have hc := classes_mem.mp hc
  unfold clL at hc
  obtain ⟨k, hk, rfl⟩ := List.mem_map.mp hc
  have := alikeL_len marks (enumL rows) k
  have h3 : (enumL rows).length = rows.length := by simp [enumL]
  omega
/-- the set of the things whose classes are within a set -/
def insideL (marks : List Int) (rows : List (List Int)) (things : List Int) : List Int := srt ltI ((classes marks rows).filter fun c => inL c things).flatten
def toldL (marks : List Int) (rows : List (List Int)) (goal : List Int) : List Int := srt ltI ((classes goal rows).flatMap (insideL marks rows))
theorem insideL_len {marks : List Int} {rows : List (List Int)} {things : List Int} : (insideL marks rows things).length ≤ rows.length * rows.length := by
  unfold insideL
  rw [(srt_perm _ _).length_eq]
  have h1 : ((classes marks rows).filter fun c => inL c things).flatten.length ≤ rows.length * ((classes marks rows).filter fun c => inL c things).length := flat_len fun c hc => classes_le c (List.mem_filter.mp hc).1
  have h2 := List.length_filter_le (fun c => inL c things) (classes marks rows)
  have h3 := classes_len (marks := marks) (rows := rows)
  exact Nat.le_trans h1 (Nat.mul_le_mul_left _ (Nat.le_trans h2 h3))
end Pu

/-! ======== N4 ======== -/
namespace Pu
open PySem
local macro_rules | `(tactic| and_intros) => `(tactic| repeat' first
  | exact nt0 | exact nt1 | exact nt2 | exact Nat.zero_lt_two | exact Nat.one_lt_two
  | exact e_var ⟨rfl⟩ Nat.zero_lt_two | exact e_var ⟨rfl⟩ Nat.one_lt_two | exact e_varb ⟨rfl⟩
  | apply e_int | apply e_bl | apply e_non | apply e_str | apply e_gfn | apply e_gint
  | exact es_nil | apply es_cons | apply e_tup | apply e_lst | apply e_bin | apply e_neg | apply e_cmp | apply e_chain | apply e_isN
  | apply e_and | apply e_or | apply e_not | apply e_ite | apply e_call | apply e_blt | apply e_isin | apply e_fld | apply e_idx
  | apply e_lcid | apply e_lcm | apply e_lcf | apply e_sortk
  | exact cl_inst | exact fd_inst | exact ix0 | exact ix1 | exact ix2
  | apply ew | apply cw
  | apply e_tupS | apply e_lstS | apply sr_rng1 | apply sr_rng2 | apply sr_enum | apply sr_zipt | apply sr_zipl | exact sr_dk ⟨rfl⟩ | apply sr_ex
  | exact tb_nm | exact tb_pr
  | exact can_int | exact can_bl | exact can_tp | exact can_ls | exact can_id | apply can_pr | apply can_tp1
  | exact e_no | exact lk rfl
  | exact b_addi | exact b_subi | apply b_addt | apply b_addl | apply b_addt1
  | exact c_lti | exact c_lei | exact c_gti | exact c_gei | exact c_eqi | exact c_nei | exact c_eqb | exact c_neb
  | exact c_eqt (by decide) | exact c_net (by decide) | exact c_eql (by decide) | exact c_nel (by decide)
  | exact c_int rfl (by decide) | exact c_inl rfl (by decide) | exact c_nint rfl (by decide) | exact c_ninl rfl (by decide)
  | exact bl_all | exact bl_any | exact bl_sum | exact bl_lent | exact bl_lenl | exact bl_lent' | exact bl_lenl' | exact bl_tupl | exact bl_tupt | exact bl_lstl | exact bl_lstt | exact bl_int
  | exact bl_sorted sb_int (by decide) | exact bl_sorted sb_pr (by decide) | exact bl_sorted sb_ls (by decide)
  | exact sb_int | exact sb_pr | exact sb_ls
  | apply s_ret | apply s_asg | apply s_asgb | apply s_asgt | apply s_par | exact s_nil | (refine s_frz ⟨rfl⟩ ?_) | (refine s_frzd ⟨rfl⟩ ?_) | apply s_expr
  | assumption
  | rfl
  | omega
  | intro _)
/-! what changes the state -/
structure Ex (g : G) (e : E) (m : Nat) (ρ : Rho) (S : Sx) (d : D) (S' : Sx) : Prop where
  eq : e.den g m ρ S = .ok d S'
structure Exs (g : G) (es : Es) (m : Nat) (ρ : Rho) (S : Sx) (ds : List D) (S' : Sx) : Prop where
  eq : es.den g m ρ S = .ok ds S'
section
variable {g : G} {m : Nat} {ρ : Rho} {S S1 S2 : Sx} {ss : Ss} {r : RS}
theorem x_of {e : E} {d : D} (h : Ev g e m ρ S d) : Ex g e m ρ S d S := ⟨h.eq⟩
theorem xs_nil : Exs g .nil m ρ S [] S := ⟨rfl⟩
theorem xs_cons {e : E} {es : Es} {d : D} {ds : List D} (h1 : Ex g e m ρ S d S1) (h2 : Exs g es m ρ S1 ds S2) : Exs g (.cons e es) m ρ S (d :: ds) S2 := ⟨by
  rw [Es.den, h1.eq]; show R.bind (es.den g m ρ S1) _ = _; rw [h2.eq]; rfl⟩
theorem x_call {T : Tab} {n k : Nat} {es : Es} {ds : List D} {d : D} (h1 : Evs (gAt T n) es 0 ρ S ds) (h : run T n false k ds S = .ok d S1) (hm : m < 2) : Ex (gAt T n) (.call k es) m ρ S d S1 := ⟨by
  rw [E.den]
  have : (if (gAt T n).fr k = true then 0 else m) < 2 := by split <;> omega
  rw [onlyNew_ok this, h1.eq]
  exact h⟩
theorem x_bin {op : Op} {a b : E} {x y d : D} (h1 : Ex g a 1 ρ S x S1) (h2 : Ex g b 1 ρ S1 y S2) (h : Bn op x y d) (hn : Nt m d) : Ex g (.bin op a b) m ρ S d S2 := ⟨by
  rw [E.den, h1.eq]
  show natM m (R.bind (b.den g 1 ρ S1) _) = _
  rw [h2.eq]
  show natM m (R.of S2 (binD op x y)) = _
  rw [h.eq]
  unfold natM
  rcases hn.eq with h | ⟨l, rfl⟩
  · rw [if_pos h]; rfl
  · split <;> rfl⟩
theorem x_cmp {c : Cm} {a b : E} {x y : D} {q : Bool} (h1 : Ex g a 1 ρ S x S1) (h2 : Ex g b 1 ρ S1 y S2) (h : Cp c x y q) (hm : m < 2) : Ex g (.cmp c a b) m ρ S (.bl q) S2 := ⟨by
  rw [E.den, h1.eq, onlyNew_ok hm]
  show R.bind (b.den g 1 ρ S1) _ = _
  rw [h2.eq]
  show R.of S2 (cmpD c x y) = _
  rw [h.eq]; rfl⟩
theorem x_tup {es : Es} {ds : List D} (h : Exs g es 0 ρ S ds S1) (hm : m < 2) : Ex g (.tup es) m ρ S (.tup ds) S1 := ⟨by rw [E.den, onlyNew_ok hm, h.eq]; rfl⟩
structure Mk (T : Tab) (n c : Nat) (ds : List D) (S : Sx) (d : D) : Prop where
  eq : run T n true c ds S = .ok d S
theorem e_make {T : Tab} {n c : Nat} {es : Es} {ds : List D} {d : D} (h1 : Evs (gAt T n) es 0 ρ S ds) (h : Mk T n c ds S d) (hm : m < 2) : Ev (gAt T n) (.make c es) m ρ S d := ⟨by
  rw [E.den, onlyNew_ok hm, h1.eq]
  exact h.eq⟩
theorem sx_asg {i : Nat} {e : E} {d : D} (h : Ex g e 0 ρ S d S1) (h2 : Sv g ss (ρ.set i (.v d)) S1 r) : Sv g (.cons (.asg (.nm i) e) ss) ρ S r := ⟨by rw [Ss.den, S.den, h.eq]; exact h2.eq⟩
theorem sx_asgt {is : List Nat} {e : E} {ds : List D} {ρ' : Rho} (h : Ex g e 0 ρ S (.tup ds) S1) (hb : bindAll is ds ρ = some ρ') (h2 : Sv g ss ρ' S1 r) : Sv g (.cons (.asg (.tp is) e) ss) ρ S r := ⟨by
  rw [Ss.den, S.den, h.eq]
  show RS.next? (RS.opt S1 (bindAll is ds ρ)) _ = _
  rw [hb]; exact h2.eq⟩
theorem sx_par {is : List Nat} {es : Es} {ds : List D} {ρ' : Rho} (h : Exs g es 0 ρ S ds S1) (hb : bindAll is.reverse ds.reverse ρ = some ρ') (h2 : Sv g ss ρ' S1 r) : Sv g (.cons (.par is es) ss) ρ S r := ⟨by
  rw [Ss.den, S.den, h.eq]
  show RS.next? (RS.opt S1 (bindAll is.reverse ds.reverse ρ)) _ = _
  rw [hb]; exact h2.eq⟩
theorem s_setst {i : Nat} {k e : E} {d : D} {z : Int} {ds : List D} {j : Nat} (h : Ev g e 0 ρ (some ds) d) (hi : Lk ρ i (.v .st)) (hk : Ev g k 0 ρ (some ds) (.int z)) (hj : L2.ixN ds.length z = some j) (h2 : Sv g ss ρ (some (ds.set j d)) r) : Sv g (.cons (.setst i k e) ss) ρ (some ds) r := ⟨by
  rw [Ss.den, S.den, h.eq]
  show RS.next? (match ρ[i]? with | some (.v .st) => _ | _ => _) _ = _
  rw [hi.eq]
  show RS.next? (R.toS (k.den g 0 ρ (some ds)) _) _ = _
  rw [hk.eq]
  show RS.next? (match L2.ixN ds.length z with | some j => _ | none => _) _ = _
  rw [hj]
  exact h2.eq⟩
theorem e_idxst {a b : E} {ds : List D} {y d : D} (h1 : Ev g a 1 ρ (some ds) .st) (h2 : Ev g b 0 ρ (some ds) y) (h : idxD (.lst ds) y = some d) (hm : m < 2) : Ev g (.idx a b) m ρ (some ds) d := ⟨by
  rw [E.den, h1.eq, onlyNew_ok hm]
  show R.bind (b.den g 0 ρ (some ds)) _ = _
  rw [h2.eq]
  show R.of _ (idxD (.lst ds) y) = _
  rw [h]; rfl⟩
theorem b_muli {x y : Int} (h : -(2 ^ 64) < y ∧ y < 2 ^ 64) : Bn .mul (.int x) (.int y) (.int (x * y)) := ⟨by
  show (if (-(2 ^ 64) < x ∧ x < 2 ^ 64) ∨ (-(2 ^ 64) < y ∧ y < 2 ^ 64) then some (D.int (x * y)) else none) = _
  rw [if_pos (.inr h)]⟩
theorem b_divi {x y : Int} (h : 0 < y ∧ y < 1073741824) : Bn .fdiv (.int x) (.int y) (.int (x / y)) := ⟨by
  show (if 0 < y ∧ y < 1073741824 then some (D.int (x / y)) else none) = _
  rw [if_pos h]⟩
theorem b_modi {x y : Int} (h : 0 < y) : Bn .mod (.int x) (.int y) (.int (x % y)) := ⟨by
  show (if 0 < y then some (D.int (x % y)) else none) = _
  rw [if_pos h]⟩
theorem bl_abs {i : Int} : Bl .abs [.int i] (.int (if i < 0 then -i else i)) := ⟨rfl⟩
theorem s_setf {c : Nat} {fs : List (Str × D)} {f : Str} {e : E} {d : D} (h : Ev g e 0 ρ S d) (hi : Lk ρ 0 (.o c fs)) (hc : (decide (f ∈ g.flds c) && !decide (f ∈ fs.map (·.1)) && decide (fs.length < 100) && decide (0 = 0) && (ρ.drop 1).all notO) = true) (h2 : Sv g ss (ρ.set 0 (.o c (fs ++ [(f, d)]))) S r) : Sv g (.cons (.setf 0 f e) ss) ρ S r := ⟨by
  rw [Ss.den, S.den, h.eq]
  show RS.next? (match ρ[0]? with | some (Sl.o c fs) => _ | _ => _) _ = _
  rw [hi.eq]
  show RS.next? (if (decide (f ∈ g.flds c) && !decide (f ∈ fs.map (·.1)) && decide (fs.length < 100) && decide (0 = 0) && (ρ.drop 1).all notO) = true then _ else _) _ = _
  rw [if_pos hc]
  exact h2.eq⟩
end
/-! draws along a list -/
theorem lcGo_sub {α : Type} {P : Sx → Prop} {f : D → Sx → R (Option D)} {i : α → D} : ∀ (l : List α) (S : Sx), P S → (∀ a ∈ l, ∀ S, P S → ∃ (b : Bool) (S' : Sx), P S' ∧ f (i a) S = .ok (if b then some (i a) else none) S') → ∃ (l' : List α) (S' : Sx), P S' ∧ l'.Sublist l ∧ lcGo f (l.map i) S = .ok (l'.map i) S'
  | [], S, h, _ => ⟨[], S, h, List.Sublist.refl _, rfl⟩
  | a :: l, S, h, H => by
    obtain ⟨b, S1, h1, e1⟩ := H a List.mem_cons_self S h
    obtain ⟨l', S2, h2, hs, e2⟩ := lcGo_sub l S1 h1 fun c hc => H c (List.mem_cons_of_mem _ hc)
    cases b with
    | false =>
      refine ⟨l', S2, h2, hs.cons _, ?_⟩
      show (f (i a) S).bind _ = _
      rw [e1]
      show (lcGo f (l.map i) S1).bind _ = _
      rw [e2]; rfl
    | true =>
      refine ⟨a :: l', S2, h2, hs.cons_cons _, ?_⟩
      show (f (i a) S).bind _ = _
      rw [e1]
      show (lcGo f (l.map i) S1).bind _ = _
      rw [e2]; rfl
theorem lcGo_each {α β : Type} {P : Sx → Prop} {Q : β → Prop} {f : D → Sx → R (Option D)} {i : α → D} {j : β → D} : ∀ (l : List α) (S : Sx), P S → (∀ a ∈ l, ∀ S, P S → ∃ (b : β) (S' : Sx), P S' ∧ Q b ∧ f (i a) S = .ok (some (j b)) S') → ∃ (l' : List β) (S' : Sx), P S' ∧ l'.length = l.length ∧ (∀ b ∈ l', Q b) ∧ lcGo f (l.map i) S = .ok (l'.map j) S'
  | [], S, h, _ => ⟨[], S, h, rfl, by simp, rfl⟩
  | a :: l, S, h, H => by
    obtain ⟨b, S1, h1, q1, e1⟩ := H a List.mem_cons_self S h
    obtain ⟨l', S2, h2, hl, hq, e2⟩ := lcGo_each l S1 h1 fun c hc => H c (List.mem_cons_of_mem _ hc)
    refine ⟨b :: l', S2, h2, by rw [List.length_cons, List.length_cons, hl], ?_, ?_⟩
    · intro c hc
      rcases List.mem_cons.mp hc with rfl | hc
      · exact q1
      · exact hq c hc
    · show (f (i a) S).bind _ = _
      rw [e1]
      show (lcGo f (l.map i) S1).bind _ = _
      rw [e2]; rfl
/-- the state of the draws -/
def St (S : Sx) : Prop := ∃ a b : Int, S = some [.int a, .int b]
/-- increasing, each in 0 .. n-1 -/
def setB (l : List Int) (n : Int) : Bool := l.all (fun x => true && (decide (0 ≤ x) && decide (x < n))) && (l.zip (l.drop 1)).all fun p => decide (p.1 < p.2)
theorem setB_iff {l : List Int} {n : Int} : setB l n = true ↔ (∀ x ∈ l, 0 ≤ x ∧ x < n) ∧ l.Pairwise (· < ·) := by
  unfold setB
  rw [Bool.and_eq_true, List.all_eq_true]
  refine and_congr (by simp) ?_
  induction l with
  | nil => simp
  | cons a l ih =>
    cases l with
    | nil => simp
    | cons b l =>
      have ih' : (((b :: l).zip ((b :: l).drop 1)).all fun p => decide (p.1 < p.2)) = true ↔ (b :: l).Pairwise (· < ·) := ih
      have e : (((a :: b :: l).zip ((a :: b :: l).drop 1)).all fun p => decide (p.1 < p.2)) = (decide (a < b) && ((b :: l).zip ((b :: l).drop 1)).all fun p => decide (p.1 < p.2)) := by
        simp
      rw [e, Bool.and_eq_true, ih', decide_eq_true_eq, List.pairwise_cons (a := a)]
      constructor
      · rintro ⟨h1, h2⟩
        refine ⟨fun c hc => ?_, h2⟩
        rcases List.mem_cons.mp hc with rfl | hc
        · exact h1
        · have := (List.pairwise_cons.mp h2).1 c hc
          omega
      · rintro ⟨h1, h2⟩
        exact ⟨h1 b List.mem_cons_self, h2⟩
theorem rg_mem {x : Int} {n : Nat} : x ∈ rg 0 n ↔ 0 ≤ x ∧ x < n := by
  unfold rg
  rw [List.mem_map]
  constructor
  · rintro ⟨k, hk, rfl⟩
    rw [List.mem_range] at hk
    omega
  · rintro ⟨h1, h2⟩
    exact ⟨x.toNat, by rw [List.mem_range]; omega, by omega⟩
theorem rg_inc (n : Nat) : (rg 0 n).Pairwise (· < ·) := by
  unfold rg
  rw [List.pairwise_map]
  exact List.Pairwise.imp (fun {a b} h => by omega) List.pairwise_lt_range
theorem sub_set {l : List Int} {n : Nat} (h : l.Sublist (rg 0 n)) : setB l n = true := setB_iff.mpr ⟨fun x hx => by
  have := rg_mem.mp (h.subset hx); exact this, List.Pairwise.sublist h (rg_inc n)⟩
theorem sub_set' {l : List Int} {m : Int} (h0 : 0 ≤ m) (h : l.Sublist (rg 0 m.toNat)) : setB l m = true := by
  have := sub_set h
  rwa [Int.toNat_of_nonneg h0] at this
theorem ev_to {g : G} {e : E} {m : Nat} {ρ : Rho} {S : Sx} {d d' : D} (h : Ev g e m ρ S d) (hd : d = d') : Ev g e m ρ S d' := hd ▸ h
theorem e_tail {g : G} {m : Nat} {ρ : Rho} {S : Sx} {e : E} {α : Type} {i : α → D} {l : List α} (h : Ev g e 1 ρ S (.tup (l.map i))) (hm : m < 2) : Ev g (.slc e (.int 1) .no) m ρ S (.tup ((l.drop 1).map i)) := ⟨by
  rw [E.den, h.eq]
  have e1 : cutD (l.map i) (some 1) none = (l.drop 1).map i := by
    have e1 : HT.sIx (l.map i).length 0 (some 1) = min 1 (l.map i).length := HT.sIx_nat (l.map i).length 0 1
    unfold cutD
    rw [e1, HT.sIx_none]
    cases l with
    | nil => rfl
    | cons x a =>
      have h : min 1 ((x :: a).map i).length = 1 := by simp
      rw [h]
      show (a.map i).take (((x :: a).map i).length - 1) = a.map i
      rw [List.map_cons, List.length_cons, Nat.add_sub_cancel, List.take_length]
  have : R.bind (R.ok (.tup (l.map i)) S) (fun x S => R.bind (R.ok (some 1) S : R (Option Int)) fun l S => R.bind (R.ok none S : R (Option Int)) fun h S => R.of S (slcD x l h)) = R.ok (.tup ((l.drop 1).map i)) S := by
    show R.of S (some (D.tup (cutD (l.map i) (some 1) none))) = _
    rw [e1]; rfl
  exact Nt.nat ⟨.inl hm⟩ this⟩
/-! subsets -/
def subsL : Nat → List (List Int)
  | 0 => [[]]
  | n + 1 => subsL n ++ (subsL n).map (· ++ [(n : Int)])
theorem subsL_len : ∀ n, (subsL n).length = 2 ^ n
  | 0 => rfl
  | n + 1 => by
    unfold subsL
    rw [List.length_append, List.length_map, subsL_len n, Nat.pow_succ]
    omega
theorem subsL_short : ∀ n, ∀ l ∈ subsL n, l.length ≤ n
  | 0, l, h => by
    have : l = [] := by simpa [subsL] using h
    rw [this]; exact Nat.le_refl _
  | n + 1, l, h => by
    unfold subsL at h
    rw [List.mem_append, List.mem_map] at h
    rcases h with h | ⟨k, h, rfl⟩
    · exact Nat.le_succ_of_le (subsL_short n l h)
    · rw [List.length_append]
      have := subsL_short n k h
      show k.length + 1 ≤ n + 1
      omega
abbrev szk (l : List Int) : Int × List Int := ((l.length : Int), l)
/-- the sets of numbers below n, smaller ones first -/
def subs (n : Nat) : List (List Int) := isort (leBy (ltPr ltI ltS) szk) (subsL n)
theorem rg_succ (n : Nat) : rg 0 (n + 1) = rg 0 n ++ [(n : Int)] := by
  unfold rg
  rw [List.range_succ, List.map_append]
  simp
theorem subs_fold : ∀ n, (rg 0 n).foldl (fun (L : List (List Int)) x => L ++ L.map (· ++ [x])) [[]] = subsL n
  | 0 => rfl
  | n + 1 => by rw [rg_succ, List.foldl_append, subs_fold n]; rfl
theorem rg_len (n : Nat) : (rg 0 n).length = n := by simp [rg]
theorem rg_take {k n : Nat} (h : k ≤ n) : (rg 0 n).take k = rg 0 k := by
  unfold rg
  rw [← List.map_take, List.take_range, Nat.min_eq_left h]
theorem rg_split {n : Nat} {pre post : List Int} {a : Int} (h : rg 0 n = pre ++ a :: post) : pre = rg 0 pre.length ∧ a = pre.length ∧ pre.length < n := by
  have hl : pre.length < n := by
    have := congrArg List.length h
    simp [rg] at this
    omega
  refine ⟨?_, ?_, hl⟩
  · have := congrArg (List.take pre.length) h
    rw [List.take_left' rfl, rg_take (Nat.le_of_lt hl)] at this
    exact this.symm
  · have := congrArg (fun l => l[pre.length]?) h
    simp [rg, hl] at this
    omega
theorem subs_len {n : Nat} : (subs n).length = 2 ^ n := by unfold subs; rw [(isort_perm _ _).length_eq, subsL_len]
theorem insB_map {α β : Type} {f : α → β} {le : β → β → Bool} (x : α) : ∀ l : List α, insB le (f x) (l.map f) = (insB (fun a b => le (f a) (f b)) x l).map f
  | [] => rfl
  | y :: l => by
    show (if le (f x) (f y) then f x :: f y :: l.map f else f y :: insB le (f x) (l.map f)) = List.map f (if le (f x) (f y) then x :: y :: l else y :: insB _ x l)
    rw [insB_map x l]
    split <;> rfl
theorem isort_map {α β : Type} {f : α → β} {le : β → β → Bool} : ∀ l : List α, isort le (l.map f) = (isort (fun a b => le (f a) (f b)) l).map f
  | [] => rfl
  | x :: l => by
    show insB le (f x) (isort le (l.map f)) = _
    rw [isort_map l, insB_map]
    rfl
theorem srt_deco {α β : Type} (lt : β × α → β × α → Bool) (κ : α → β × α) (h : ∀ a, (κ a).2 = a) (l : List α) : (srt lt (l.map κ)).map (fun q => q.2) = isort (leBy lt κ) l := by
  show List.map _ (isort _ (l.map κ)) = _
  rw [isort_map, List.map_map]
  have : ((fun q : β × α => q.2) ∘ κ) = id := funext h
  rw [this, List.map_id]
theorem foldl_if_flatMap {α β : Type} (p : α → Bool) (f : α → List β) (l : List α) : l.foldl (fun acc a => if p a = true then acc ++ f a else acc) [] = (l.filter p).flatMap f := by
  rw [foldl_filter' p (fun acc a => acc ++ f a), foldl_flat f]
  rfl
theorem foldl_if_app {α β : Type} (p : α → Bool) (f : α → β) (l : List α) (acc : List β) : l.foldl (fun acc a => if p a = true then acc ++ [f a] else acc) acc = acc ++ (l.filter p).map f := by
  rw [foldl_filter' p (fun acc a => acc ++ [f a]), foldl_flat (fun a => [f a])]
  congr 1
  induction (l.filter p) with
  | nil => rfl
  | cons a l ih => rw [List.flatMap_cons, ih]; rfl
section
variable {g : G} {m : Nat} {ρ : Rho} {S : Sx}
theorem x_blt {S1 : Sx} {f : Blt} {es : Es} {ds : List D} {d : D} (h1 : Exs g es 1 ρ S ds S1) (h : Bl f ds d) (hn : Nt m d) : Ex g (.blt f es) m ρ S d S1 := ⟨by
  rw [E.den, h1.eq]
  show natM m (R.of S1 (bltD f ds)) = _
  rw [h.eq]
  unfold natM
  rcases hn.eq with h | ⟨l, rfl⟩
  · rw [if_pos h]; rfl
  · split <;> rfl⟩
theorem x_lcsub {P : Sx → Prop} {v : Nat} {src : Src} {cond : E} {own : List Nat} {α : Type} {i : α → D} {l : List α} {ρ' : α → Rho} (hS : P S) (hs : Sr g src 1 ρ S (l.map i)) (hb : Tb l (.nm v) i (wipe ρ own) ρ')
    (hc : ∀ a ∈ l, ∀ S, P S → ∃ b S', P S' ∧ Ex g cond 0 (ρ' a) S (.bl b) S') (hv : ∀ a, Lk (ρ' a) v (.v (i a))) : ∃ (l' : List α) (S' : Sx), P S' ∧ l'.Sublist l ∧ Ex g (.lc (.var v) (.nm v) src cond own) m ρ S (.lst (l'.map i)) S' := by
  obtain ⟨l', S', h1, h2, e⟩ := lcGo_sub (P := P) (f := fun d S => match (Tg.nm v).bind d (wipe ρ own) with
      | some ρ' => noX (condM (truth (cond.den g 0 ρ' S)) (fun S => (E.var v).den g 0 ρ' S))
      | none => .stuck) (i := i) l S hS (fun a ha S hS => by
    obtain ⟨b, S1, q1, q2⟩ := hc a ha S hS
    refine ⟨b, S1, q1, ?_⟩
    show (match (Tg.nm v).bind (i a) (wipe ρ own) with
      | some ρ' => noX (condM (truth (cond.den g 0 ρ' S)) (fun S => (E.var v).den g 0 ρ' S))
      | none => .stuck) = _
    rw [hb.eq a ha]
    show noX (condM (truth (cond.den g 0 (ρ' a) S)) _) = _
    rw [q2.eq]
    cases b with
    | false => rfl
    | true =>
      show noX (R.bind ((E.var v).den g 0 (ρ' a) S1) _) = _
      rw [(e_var (hv a) (by decide)).eq]
      rfl)
  refine ⟨l', S', h1, h2, ⟨?_⟩⟩
  rw [E.den, hs.eq]
  exact congrArg (fun z => R.bind z fun r S => R.ok (D.lst r) S) e
theorem x_lceach {P : Sx → Prop} {β : Type} {Q : β → Prop} {elt : E} {tg : Tg} {src : Src} {own : List Nat} {α : Type} {i : α → D} {j : β → D} {l : List α} {ρ' : α → Rho} (hS : P S) (hs : Sr g src 1 ρ S (l.map i)) (hb : Tb l tg i (wipe ρ own) ρ')
    (he : ∀ a ∈ l, ∀ S, P S → ∃ b S', P S' ∧ Q b ∧ Ex g elt 0 (ρ' a) S (j b) S') : ∃ (l' : List β) (S' : Sx), P S' ∧ l'.length = l.length ∧ (∀ b ∈ l', Q b) ∧ Ex g (.lc elt tg src .no own) m ρ S (.lst (l'.map j)) S' := by
  obtain ⟨l', S', h1, h2, h3, e⟩ := lcGo_each (P := P) (Q := Q) (j := j) (f := fun d S => match tg.bind d (wipe ρ own) with
      | some ρ' => noX (condM (truth (E.no.den g 0 ρ' S)) (fun S => elt.den g 0 ρ' S))
      | none => .stuck) (i := i) l S hS (fun a ha S hS => by
    obtain ⟨b, S1, q1, q3, q2⟩ := he a ha S hS
    refine ⟨b, S1, q1, q3, ?_⟩
    show (match tg.bind (i a) (wipe ρ own) with
      | some ρ' => noX (condM (truth (E.no.den g 0 ρ' S)) (fun S => elt.den g 0 ρ' S))
      | none => .stuck) = _
    rw [hb.eq a ha]
    show noX (R.bind (elt.den g 0 (ρ' a) S) _) = _
    rw [q2.eq]
    rfl)
  refine ⟨l', S', h1, h2, h3, ⟨?_⟩⟩
  rw [E.den, hs.eq]
  exact congrArg (fun z => R.bind z fun r S => R.ok (D.lst r) S) e
end
/-! data that are the same -/
mutual
theorem eqv_self : ∀ d : PyData, d.canLay0 = true → d.eqv d = true
  | .none, _ => by simp [PyData.eqv]
  | .bool b, _ => by simp [PyData.eqv]
  | .int i, _ => by simp [PyData.eqv]
  | .str s, _ => by simp [PyData.eqv]
  | .list xs, h => by
    rw [PyData.eqv]
    exact eqvAll_self xs (by simpa [PyData.canLay0] using h)
  | .tuple xs, h => by
    rw [PyData.eqv]
    exact eqvAll_self xs (by simpa [PyData.canLay0] using h)
  | .dict _, h => by simp [PyData.canLay0] at h
theorem eqvAll_self : ∀ ds : List PyData, PyData.canLayAll0 ds = true → PyData.eqvAll ds ds = true
  | [], _ => by simp [PyData.eqvAll]
  | d :: ds, h => by
    have h' : d.canLay0 = true ∧ PyData.canLayAll0 ds = true := by simpa [PyData.canLayAll0] using h
    rw [PyData.eqvAll, eqv_self d h'.1, eqvAll_self ds h'.2]; rfl
end
theorem same_self {d : D} (h : SeqAt.shaped d.py = true) : sameD d d = some true := by
  have hl : d.py.canLay0 = true := by
    unfold SeqAt.shaped at h
    exact (Bool.and_eq_true _ _ ▸ h).1
  unfold sameD
  rw [h, eqv_self _ hl]
  rfl
theorem c_self {d : D} (h : SeqAt.shaped d.py = true) : Cp .eq d d true := ⟨by show (sameD d d).map D.bl = _; rw [same_self h]; rfl⟩
theorem c_nself {d : D} (h : SeqAt.shaped d.py = true) : Cp .ne d d false := ⟨by show (sameD d d).map (fun c => D.bl (!c)) = _; rw [same_self h]; rfl⟩
section
variable {g : G} {m : Nat} {ρ : Rho} {S : Sx}
/-- a loop at the end of a body, with what it leaves behind -/
theorem s_for_end {t : Tg} {src : Src} {body : Ss} {kill : List Nat} {α σ ζ : Type} {i : α → D} {l : List α} (mk : σ → ζ → Rho) (step : σ → α → σ) (s0 : σ) (z0 : ζ)
    (hs : Sr g src 0 ρ S (l.map i)) (h0 : ρ = mk s0 z0)
    (hb : ∀ pre a post, l = pre ++ a :: post → ∀ z, ∃ z', Tu g t body (i a) (mk (pre.foldl step s0) z) S (mk (step (pre.foldl step s0) a) z')) :
    ∃ z, Sv g (.cons (.for_ t src body kill) .nil) ρ S (.next (wipe (mk (l.foldl step s0) z) kill) S) := by
  have key : ∀ (post pre : List α) (z : ζ), l = pre ++ post → ∃ z', forGo (fun d ρ S => match t.bind d ρ with
      | some ρ' => body.den g ρ' S
      | none => .stuck) (post.map i) (mk (pre.foldl step s0) z) S = .next (mk (l.foldl step s0) z') S := by
    intro post
    induction post with
    | nil => intro pre z e; rw [List.append_nil] at e; subst e; exact ⟨z, rfl⟩
    | cons a post ih =>
      intro pre z e
      obtain ⟨z', ⟨ρ', e1, e2⟩⟩ := hb pre a post e z
      have e3 : l = (pre ++ [a]) ++ post := by rw [e]; simp
      obtain ⟨z2, e4⟩ := ih (pre ++ [a]) z' e3
      refine ⟨z2, ?_⟩
      show RS.next? (match t.bind (i a) (mk (pre.foldl step s0) z) with
        | some ρ' => body.den g ρ' S
        | none => .stuck) _ = _
      rw [e1]
      show RS.next? (body.den g ρ' S) _ = _
      rw [e2]
      rw [List.foldl_append] at e4
      exact e4
  obtain ⟨z', e⟩ := key l [] z0 rfl
  refine ⟨z', ⟨?_⟩⟩
  rw [Ss.den, Pu.S.den, hs.eq, h0]
  exact congrArg (fun q => RS.next? (RS.next? q fun ρ S => .next (wipe ρ kill) S) fun ρ S => Ss.nil.den g ρ S) e
end
end Pu

/-! ======== Xlook ======== -/
namespace Pu
open PySem
local macro_rules | `(tactic| and_intros) => `(tactic| repeat' first
  | exact nt0 | exact nt1 | exact nt2 | exact Nat.zero_lt_two | exact Nat.one_lt_two
  | exact e_var ⟨rfl⟩ Nat.zero_lt_two | exact e_var ⟨rfl⟩ Nat.one_lt_two | exact e_varb ⟨rfl⟩
  | apply e_int | apply e_bl | apply e_non | apply e_str | apply e_gfn | apply e_gint
  | exact es_nil | apply es_cons | apply e_tup | apply e_lst | apply e_bin | apply e_neg | apply e_cmp | apply e_chain | apply e_isN
  | apply e_and | apply e_or | apply e_not | apply e_ite | apply e_call | apply e_blt | apply e_isin | apply e_fld | apply e_idx
  | apply e_lcid | apply e_lcm | apply e_lcf | apply e_sortk
  | exact cl_inst | exact fd_inst | exact ix0 | exact ix1 | exact ix2
  | apply ew | apply cw
  | apply e_tupS | apply e_lstS | apply sr_rng1 | apply sr_rng2 | apply sr_enum | apply sr_zipt | apply sr_zipl | exact sr_dk ⟨rfl⟩ | apply sr_ex
  | exact tb_nm | exact tb_pr
  | exact can_int | exact can_bl | exact can_tp | exact can_ls | exact can_id | apply can_pr | apply can_tp1
  | exact e_no | exact lk rfl
  | exact b_addi | exact b_subi | apply b_addt | apply b_addl | apply b_addt1
  | exact c_lti | exact c_lei | exact c_gti | exact c_gei | exact c_eqi | exact c_nei | exact c_eqb | exact c_neb
  | exact c_eqt (by decide) | exact c_net (by decide) | exact c_eql (by decide) | exact c_nel (by decide)
  | exact c_int rfl (by decide) | exact c_inl rfl (by decide) | exact c_nint rfl (by decide) | exact c_ninl rfl (by decide)
  | exact bl_all | exact bl_any | exact bl_sum | exact bl_lent | exact bl_lenl | exact bl_lent' | exact bl_lenl' | exact bl_tupl | exact bl_tupt | exact bl_lstl | exact bl_lstt | exact bl_int
  | exact bl_sorted sb_int (by decide) | exact bl_sorted sb_pr (by decide) | exact bl_sorted sb_ls (by decide)
  | exact sb_int | exact sb_pr | exact sb_ls
  | apply s_ret | apply s_asg | apply s_asgb | apply s_asgt | apply s_par | exact s_nil | (refine s_frz ⟨rfl⟩ ?_) | (refine s_frzd ⟨rfl⟩ ?_) | apply s_expr
  | assumption
  | rfl
  | omega
  | intro _)
/-! the mathematics of looks: classes of things by marks -/
abbrev rowG (rows : List (List Int)) (g : Int) : List Int := rows.getD g.toNat []
theorem enumL_eq (rows : List (List Int)) : enumL rows = (rg 0 rows.length).map fun g => (g, rowG rows g) := by
  unfold enumL
  apply List.ext_getElem
  · simp [rg]
  · intro i h1 h2
    simp [rg] at h1 h2 ⊢
    rw [List.getElem?_eq_getElem h1]; rfl
theorem rowG_mem {rows : List (List Int)} {r : List Int} : r ∈ rows ↔ ∃ g ∈ rg 0 rows.length, rowG rows g = r := by
  constructor
  · intro h
    obtain ⟨i, hi, e⟩ := List.getElem_of_mem h
    refine ⟨(i : Int), rg_mem.mpr ⟨by omega, by omega⟩, ?_⟩
    show rows.getD ((i : Int)).toNat [] = r
    rw [Int.toNat_natCast, List.getD_eq_getElem?_getD, List.getElem?_eq_getElem hi]; exact e
  · rintro ⟨g, hg, rfl⟩
    have := rg_mem.mp hg
    show rows.getD g.toNat [] ∈ rows
    rw [List.getD_eq_getElem?_getD, List.getElem?_eq_getElem (by omega : g.toNat < rows.length)]
    exact List.getElem_mem _
theorem alike_eq (marks : List Int) (rows : List (List Int)) (k : List Int) : alikeL marks (enumL rows) k = (rg 0 rows.length).filter fun g => decide (metL marks (rowG rows g) = k) := by
  unfold alikeL
  rw [enumL_eq, List.filter_map, List.map_map]
  exact (List.map_congr_left fun g _ => rfl).trans (List.map_id _)
theorem alike_mem {marks : List Int} {rows : List (List Int)} {k : List Int} {g : Int} : g ∈ alikeL marks (enumL rows) k ↔ g ∈ rg 0 rows.length ∧ metL marks (rowG rows g) = k := by
  rw [alike_eq, List.mem_filter, decide_eq_true_eq]
theorem cls_mem {marks : List Int} {rows : List (List Int)} {c : List Int} : c ∈ classes marks rows ↔ ∃ g ∈ rg 0 rows.length, c = alikeL marks (enumL rows) (metL marks (rowG rows g)) := by
  rw [classes_mem]
  unfold clL
  rw [List.mem_map]
  constructor
  · rintro ⟨k, hk, rfl⟩
    have h := (clKv_key hk).2
    obtain ⟨g, hg⟩ := List.exists_mem_of_ne_nil _ h
    obtain ⟨h1, h2⟩ := alike_mem.mp hg
    exact ⟨g, h1, by rw [h2]⟩
  · rintro ⟨g, hg, rfl⟩
    refine ⟨_, clKv_mem (p := (g, rowG rows g)) ?_, rfl⟩
    rw [enumL_eq]
    exact List.mem_map.mpr ⟨g, hg, rfl⟩
theorem rg_nodup (n : Nat) : (rg 0 n).Nodup := (rg_inc n).imp fun h e => by omega
theorem alike_nodup {marks : List Int} {rows : List (List Int)} {k : List Int} : (alikeL marks (enumL rows) k).Nodup := by
  rw [alike_eq]
  exact (rg_nodup _).filter _
theorem cls_disj {marks : List Int} {rows : List (List Int)} : (classes marks rows).Pairwise fun a b => ∀ x ∈ a, ∀ y ∈ b, x ≠ y := by
  have h : (clL marks rows).Pairwise fun a b => ∀ x ∈ a, ∀ y ∈ b, x ≠ y := by
    unfold clL
    rw [List.pairwise_map]
    refine (clKv_nodup marks (enumL rows)).imp fun {a b} hab x hx y hy e => ?_
    subst e
    exact hab ((alike_mem.mp hx).2.symm.trans (alike_mem.mp hy).2)
  exact (List.Perm.pairwise_iff (fun {a b} h x hx y hy e => h y hy x hx e.symm) (srt_perm _ _)).mpr h
theorem cls_in_nodup {marks : List Int} {rows : List (List Int)} {c : List Int} (h : c ∈ classes marks rows) : c.Nodup := by
  obtain ⟨g, _, rfl⟩ := cls_mem.mp h
  exact alike_nodup
theorem nodup_flat {L : List (List Int)} (h1 : ∀ c ∈ L, c.Nodup) (h2 : L.Pairwise fun a b => ∀ x ∈ a, ∀ y ∈ b, x ≠ y) : L.flatten.Nodup :=
  List.pairwise_flatten.mpr ⟨h1, h2⟩
/-- the class of a thing -/
abbrev clsOf (marks : List Int) (rows : List (List Int)) (g : Int) : List Int := alikeL marks (enumL rows) (metL marks (rowG rows g))
theorem srt_filter {n : Nat} {l : List Int} {p : Int → Bool} (hn : l.Nodup) (h : ∀ x, x ∈ l ↔ x ∈ rg 0 n ∧ p x = true) : srt ltI l = (rg 0 n).filter p := by
  refine stoI.srt_id ((List.perm_ext_iff_of_nodup hn ((rg_nodup n).filter p)).mpr fun x => ?_) ?_
  · rw [h, List.mem_filter]
  · exact ((rg_inc n).filter p).imp fun h => by simpa [ltI] using h
theorem inL_iff {a b : List Int} : inL a b = true ↔ ∀ x ∈ a, x ∈ b := by
  unfold inL
  rw [List.all_eq_true]
  simp
theorem inside_eq (marks : List Int) (rows : List (List Int)) (things : List Int) : insideL marks rows things = (rg 0 rows.length).filter fun g => inL (clsOf marks rows g) things := by
  unfold insideL
  refine srt_filter (nodup_flat (fun c hc => cls_in_nodup (List.mem_filter.mp hc).1) (cls_disj.filter _)) fun x => ?_
  rw [List.mem_flatten]
  constructor
  · rintro ⟨c, hc, hx⟩
    obtain ⟨h1, h2⟩ := List.mem_filter.mp hc
    obtain ⟨g, hg, rfl⟩ := cls_mem.mp h1
    obtain ⟨h3, h4⟩ := alike_mem.mp hx
    refine ⟨h3, ?_⟩
    show inL (alikeL marks (enumL rows) (metL marks (rowG rows x))) things = true
    rw [h4]; exact h2
  · rintro ⟨h1, h2⟩
    exact ⟨clsOf marks rows x, List.mem_filter.mpr ⟨cls_mem.mpr ⟨x, h1, rfl⟩, h2⟩, alike_mem.mpr ⟨h1, rfl⟩⟩
theorem inside_sub {marks : List Int} {rows : List (List Int)} {things : List Int} {x : Int} (h : x ∈ insideL marks rows things) : x ∈ things := by
  rw [inside_eq] at h
  obtain ⟨h1, h2⟩ := List.mem_filter.mp h
  exact inL_iff.mp h2 x (alike_mem.mpr ⟨h1, rfl⟩)
theorem told_eq (marks : List Int) (rows : List (List Int)) (goal : List Int) : toldL marks rows goal = (rg 0 rows.length).filter fun g => inL (clsOf marks rows g) (clsOf goal rows g) := by
  unfold toldL
  rw [List.flatMap_def]
  refine srt_filter (nodup_flat (fun c hc => ?_) ?_) fun x => ?_
  · obtain ⟨d, _, rfl⟩ := List.mem_map.mp hc
    rw [inside_eq]
    exact (rg_nodup _).filter _
  · rw [List.pairwise_map]
    exact cls_disj.imp fun {a b} h x hx y hy => h x (inside_sub hx) y (inside_sub hy)
  · rw [List.mem_flatten]
    constructor
    · rintro ⟨c, hc, hx⟩
      obtain ⟨d, hd, rfl⟩ := List.mem_map.mp hc
      obtain ⟨g, hg, rfl⟩ := cls_mem.mp hd
      have hs := inside_sub hx
      rw [inside_eq] at hx
      obtain ⟨h1, h2⟩ := List.mem_filter.mp hx
      refine ⟨h1, ?_⟩
      show inL _ (alikeL goal (enumL rows) (metL goal (rowG rows x))) = true
      rw [(alike_mem.mp hs).2]; exact h2
    · rintro ⟨h1, h2⟩
      refine ⟨insideL marks rows (clsOf goal rows x), List.mem_map.mpr ⟨_, cls_mem.mpr ⟨x, h1, rfl⟩, rfl⟩, ?_⟩
      rw [inside_eq]
      exact List.mem_filter.mpr ⟨h1, h2⟩
theorem cls_set {marks : List Int} {rows : List (List Int)} : ∀ c ∈ classes marks rows, setB c rows.length = true := fun c hc => by
  obtain ⟨g, _, rfl⟩ := cls_mem.mp hc
  rw [alike_eq]
  exact sub_set List.filter_sublist
end Pu

/-! ======== Xsubs ======== -/
namespace Pu
open PySem
local macro_rules | `(tactic| and_intros) => `(tactic| repeat' first
  | exact nt0 | exact nt1 | exact nt2 | exact Nat.zero_lt_two | exact Nat.one_lt_two
  | exact e_var ⟨rfl⟩ Nat.zero_lt_two | exact e_var ⟨rfl⟩ Nat.one_lt_two | exact e_varb ⟨rfl⟩
  | apply e_int | apply e_bl | apply e_non | apply e_str | apply e_gfn | apply e_gint
  | exact es_nil | apply es_cons | apply e_tup | apply e_lst | apply e_bin | apply e_neg | apply e_cmp | apply e_chain | apply e_isN
  | apply e_and | apply e_or | apply e_not | apply e_ite | apply e_call | apply e_blt | apply e_isin | apply e_fld | apply e_idx
  | apply e_lcid | apply e_lcm | apply e_lcf | apply e_sortk
  | exact cl_inst | exact fd_inst | exact ix0 | exact ix1 | exact ix2
  | apply ew | apply cw
  | apply e_tupS | apply e_lstS | apply sr_rng1 | apply sr_rng2 | apply sr_enum | apply sr_zipt | apply sr_zipl | exact sr_dk ⟨rfl⟩ | apply sr_ex
  | exact tb_nm | exact tb_pr
  | exact can_int | exact can_bl | exact can_tp | exact can_ls | exact can_id | apply can_pr | apply can_tp1
  | exact e_no | exact lk rfl
  | exact b_addi | exact b_subi | apply b_addt | apply b_addl | apply b_addt1
  | exact c_lti | exact c_lei | exact c_gti | exact c_gei | exact c_eqi | exact c_nei | exact c_eqb | exact c_neb
  | exact c_eqt (by decide) | exact c_net (by decide) | exact c_eql (by decide) | exact c_nel (by decide)
  | exact c_int rfl (by decide) | exact c_inl rfl (by decide) | exact c_nint rfl (by decide) | exact c_ninl rfl (by decide)
  | exact bl_all | exact bl_any | exact bl_sum | exact bl_lent | exact bl_lenl | exact bl_lent' | exact bl_lenl' | exact bl_tupl | exact bl_tupt | exact bl_lstl | exact bl_lstt | exact bl_int
  | exact bl_sorted sb_int (by decide) | exact bl_sorted sb_pr (by decide) | exact bl_sorted sb_ls (by decide)
  | exact sb_int | exact sb_pr | exact sb_ls
  | apply s_ret | apply s_asg | apply s_asgb | apply s_asgt | apply s_par | exact s_nil | (refine s_frz ⟨rfl⟩ ?_) | (refine s_frzd ⟨rfl⟩ ?_) | apply s_expr
  | assumption
  | rfl
  | omega
  | intro _)
/-! the mathematics of sets of small numbers -/
theorem set_filter {l : List Int} {n : Int} (h : setB l n = true) : (rg 0 n.toNat).filter (fun x => decide (x ∈ l)) = l := by
  obtain ⟨h1, h2⟩ := setB_iff.mp h
  have nd : l.Nodup := h2.imp fun h e => by omega
  refine stoI.uniq ((List.perm_ext_iff_of_nodup ((rg_nodup _).filter _) nd).mpr fun x => ?_) (((rg_inc _).filter _).imp fun h => by simp [ltI]; omega) (h2.imp fun h => by simp [ltI]; omega)
  rw [List.mem_filter, decide_eq_true_eq, rg_mem]
  constructor
  · exact fun h => h.2
  · intro hx
    have := h1 x hx
    exact ⟨⟨this.1, by omega⟩, hx⟩
theorem subs_full (f : Int → Bool) : ∀ n, (rg 0 n).filter f ∈ subsL n
  | 0 => by simp [rg, subsL]
  | n + 1 => by
    rw [rg_succ, List.filter_append]
    unfold subsL
    rw [List.mem_append, List.mem_map]
    have ih := subs_full f n
    cases h : f n with
    | true => exact .inr ⟨_, ih, by simp [h]⟩
    | false => exact .inl (by simpa [h] using ih)
theorem subs_set : ∀ n, ∀ l ∈ subsL n, setB l n = true
  | 0, l, h => by
    have : l = [] := by simpa [subsL] using h
    subst this; rfl
  | n + 1, l, h => by
    unfold subsL at h
    rw [List.mem_append, List.mem_map] at h
    rcases h with h | ⟨k, h, rfl⟩
    · obtain ⟨h1, h2⟩ := setB_iff.mp (subs_set n l h)
      exact setB_iff.mpr ⟨fun x hx => by have := h1 x hx; omega, h2⟩
    · obtain ⟨h1, h2⟩ := setB_iff.mp (subs_set n k h)
      refine setB_iff.mpr ⟨fun x hx => ?_, ?_⟩
      · rcases List.mem_append.mp hx with hx | hx
        · have := h1 x hx; omega
        · rw [List.mem_singleton.mp hx]; omega
      · rw [List.pairwise_append]
        refine ⟨h2, List.pairwise_singleton _ _, fun a ha b hb => ?_⟩
        rw [List.mem_singleton.mp hb]
        have := h1 a ha; omega
theorem subsL_mem {n : Nat} {l : List Int} : l ∈ subsL n ↔ setB l n = true := by
  constructor
  · exact subs_set n l
  · intro h
    have := subs_full (fun x => decide (x ∈ l)) n
    rw [show (n : Nat) = ((n : Int)).toNat from (Int.toNat_natCast n).symm, set_filter h] at this
    simpa using this
theorem subsL_nodup : ∀ n, (subsL n).Nodup
  | 0 => by simp [subsL]
  | n + 1 => by
    unfold subsL
    rw [List.nodup_append]
    refine ⟨subsL_nodup n, ?_, fun a ha b hb e => ?_⟩
    · exact List.pairwise_map.mpr ((subsL_nodup n).imp fun h e => h (List.append_cancel_right e))
    · obtain ⟨k, hk, rfl⟩ := List.mem_map.mp hb
      have h1 := (setB_iff.mp (subs_set n a ha)).1 n (by rw [e]; simp)
      omega
def ltZ (a b : List Int) : Bool := ltPr ltI ltS (szk a) (szk b)
theorem stoS : Sto ltS := stoI.ls
theorem stoZ : Sto ltZ where
  ir a := (stoI.pr stoS).ir _
  tr a b c h1 h2 := (stoI.pr stoS).tr _ _ _ h1 h2
  tt a b := by
    rcases (stoI.pr stoS).tt (szk a) (szk b) with h | h | h
    · exact .inl h
    · exact .inr (.inl (congrArg (·.2) h))
    · exact .inr (.inr h)
theorem subs_srt (n : Nat) : subs n = srt ltZ (subsL n) := rfl
theorem subs_mem {n : Nat} {l : List Int} : l ∈ subs n ↔ setB l n = true := by
  rw [subs_srt, (srt_perm _ _).mem_iff, subsL_mem]
theorem subs_nodup (n : Nat) : (subs n).Nodup := by
  rw [subs_srt]
  exact (srt_perm _ _).nodup_iff.mpr (subsL_nodup n)
theorem strict_of {α : Type} {lt : α → α → Bool} (h : Sto lt) {l : List α} (hn : l.Nodup) (hs : l.Pairwise fun a b => (!lt b a) = true) : l.Pairwise fun a b => lt a b = true := by
  refine (List.Pairwise.and hn hs).imp fun {a b} hab => ?_
  rcases h.tt a b with q | q | q
  · exact q
  · exact absurd q hab.1
  · rw [q] at hab; cases hab.2
theorem subs_strict (n : Nat) : (subs n).Pairwise fun a b => ltZ a b = true := strict_of stoZ (subs_nodup n) (by rw [subs_srt]; exact stoZ.sorted _)
/-- a list of sets in order is a part of all sets in order -/
theorem srt_subs {n : Nat} {l : List (List Int)} {p : List Int → Bool} (hn : l.Nodup) (h : ∀ x, x ∈ l ↔ setB x n = true ∧ p x = true) : srt ltZ l = (subs n).filter p := by
  refine stoZ.srt_id ((List.perm_ext_iff_of_nodup hn ((subs_nodup n).filter _)).mpr fun x => ?_) ((subs_strict n).filter _)
  rw [h, List.mem_filter, subs_mem]
theorem inL_refl (a : List Int) : inL a a = true := inL_iff.mpr fun _ h => h
theorem inL_tr {a b c : List Int} (h1 : inL a b = true) (h2 : inL b c = true) : inL a c = true := inL_iff.mpr fun x hx => inL_iff.mp h2 x (inL_iff.mp h1 x hx)
theorem set_ext {a b : List Int} {n : Int} (ha : setB a n = true) (hb : setB b n = true) (h : ∀ x, x ∈ a ↔ x ∈ b) : a = b := by
  rw [← set_filter ha, ← set_filter hb]
  exact List.filter_congr fun x _ => by simp [h x]
/-- what is within, and not the same, is smaller -/
theorem sub_lt {a b : List Int} {n : Int} (ha : setB a n = true) (hb : setB b n = true) (h : inL a b = true) (hne : a ≠ b) : ltZ a b = true := by
  have hsub := inL_iff.mp h
  have ea : a = b.filter fun x => decide (x ∈ a) := by
    conv => lhs; rw [← set_filter ha]
    conv => rhs; rw [← set_filter hb]
    rw [List.filter_filter]
    refine List.filter_congr fun x _ => ?_
    by_cases hx : x ∈ a
    · simp [hx, hsub x hx]
    · simp [hx]
  have hlt : a.length < b.length := by
    rcases Nat.lt_or_ge a.length b.length with q | q
    · exact q
    · exfalso
      have hle := List.length_filter_le (fun x => decide (x ∈ a)) b
      rw [← ea] at hle
      have : (b.filter fun x => decide (x ∈ a)).length = b.length := by rw [← ea]; omega
      rw [List.length_filter_eq_length_iff] at this
      exact hne (set_ext ha hb fun x => ⟨hsub x, fun hx => by simpa using this x hx⟩)
  unfold ltZ ltPr
  have h1 : ¬ (szk a).1 = (szk b).1 := by show ¬ (a.length : Int) = b.length; omega
  rw [if_neg h1]
  show ltI (a.length : Int) b.length = true
  simp [ltI]; exact hlt
/-- taking, in order, what has the property and nothing taken below it: the least ones -/
def minStep (p : List Int → Bool) (L : List (List Int)) (own : List Int) : List (List Int) := if (!(L.any fun low => inL low own) && p own) = true then L ++ [own] else L
theorem minStep_eq {p : List Int → Bool} (L : List (List Int)) (own : List Int) : minStep p L own = if (!(L.any fun low => inL low own) && p own) = true then L ++ [own] else L := rfl
theorem minStep_mem {p : List Int → Bool} : ∀ ps : List (List Int), ∀ q ∈ ps.foldl (minStep p) [], q ∈ ps ∧ p q = true :=
  snoc_ind (fun q h => by cases h) (fun ps a ih q h => by
    rw [List.foldl_append] at h
    have h : q ∈ minStep p (ps.foldl (minStep p) []) a := h
    unfold minStep at h
    split at h
    · rename_i e
      rw [Bool.and_eq_true] at e
      rcases List.mem_append.mp h with h | h
      · have := ih q h
        exact ⟨List.mem_append_left _ this.1, this.2⟩
      · rw [List.mem_singleton.mp h]
        exact ⟨by simp, e.2⟩
    · have := ih q h
      exact ⟨List.mem_append_left _ this.1, this.2⟩)
theorem minStep_cov {p : List Int → Bool} : ∀ ps : List (List Int), ∀ q ∈ ps, p q = true → ∃ r ∈ ps.foldl (minStep p) [], inL r q = true :=
  snoc_ind (fun q h => by cases h) (fun ps a ih q hq hp => by
    rw [List.foldl_append]
    show ∃ r ∈ minStep p (ps.foldl (minStep p) []) a, inL r q = true
    have up : ∀ r ∈ ps.foldl (minStep p) [], r ∈ minStep p (ps.foldl (minStep p) []) a := fun r hr => by
      unfold minStep
      split
      · exact List.mem_append_left _ hr
      · exact hr
    rcases List.mem_append.mp hq with hq | hq
    · obtain ⟨r, h1, h2⟩ := ih q hq hp
      exact ⟨r, up r h1, h2⟩
    · rw [List.mem_singleton] at hq
      subst hq
      cases e : (ps.foldl (minStep p) []).any fun low => inL low q with
      | true =>
        rw [List.any_eq_true] at e
        obtain ⟨r, h1, h2⟩ := e
        exact ⟨r, up r h1, h2⟩
      | false =>
        refine ⟨q, ?_, inL_refl q⟩
        rw [minStep_eq, e, hp]
        simp)
/-- the least ones by comparing each with each -/
def leastOf (L : List (List Int)) : List (List Int) := L.filter fun own => !L.any fun low => !decide (low = own) && inL low own
theorem min_least {n : Int} {p : List Int → Bool} : ∀ ps : List (List Int), ps.Pairwise (fun a b => ltZ a b = true) → (∀ a ∈ ps, setB a n = true) → (∀ a ∈ ps, ∀ b, setB b n = true → p b = true → inL b a = true → b ∈ ps) →
    ps.foldl (minStep p) [] = ps.filter fun own => p own && !((ps.filter p).any fun low => !decide (low = own) && inL low own) := by
  intro ps hs hset hdown
  -- by the ends: what stands ahead decides
  have key : ∀ (pre post : List (List Int)), ps = pre ++ post → pre.foldl (minStep p) [] = pre.filter fun own => p own && !((ps.filter p).any fun low => !decide (low = own) && inL low own) := by
    intro pre
    refine snoc_ind (P := fun pre => ∀ post, ps = pre ++ post → pre.foldl (minStep p) [] = pre.filter fun own => p own && !((ps.filter p).any fun low => !decide (low = own) && inL low own)) (fun _ _ => rfl) (fun pre a ih post e => ?_) pre
    have e' : ps = pre ++ (a :: post) := by rw [e]; simp
    have ih := ih (a :: post) e'
    rw [List.foldl_append, List.filter_append]
    show minStep p (pre.foldl (minStep p) []) a = _
    have hmem : a ∈ ps := by rw [e']; simp
    have hpre : ∀ x ∈ pre, ltZ x a = true := fun x hx => by
      rw [e', List.pairwise_append] at hs
      exact hs.2.2 x hx a List.mem_cons_self
    have hpost : ∀ x ∈ post, ltZ a x = true := fun x hx => by
      rw [e', List.pairwise_append] at hs
      exact (List.pairwise_cons.mp hs.2.1).1 x hx
    have hany : ((pre.foldl (minStep p) []).any fun low => inL low a) = ((ps.filter p).any fun low => !decide (low = a) && inL low a) := by
      rw [Bool.eq_iff_iff, List.any_eq_true, List.any_eq_true]
      constructor
      · rintro ⟨r, h1, h2⟩
        obtain ⟨h3, h4⟩ := minStep_mem pre r h1
        refine ⟨r, List.mem_filter.mpr ⟨by rw [e']; exact List.mem_append_left _ h3, h4⟩, ?_⟩
        have : r ≠ a := stoZ.ne (hpre r h3)
        simp [this, h2]
      · rintro ⟨r, h1, h2⟩
        obtain ⟨h3, h4⟩ := List.mem_filter.mp h1
        rw [Bool.and_eq_true, Bool.not_eq_true', decide_eq_false_iff_not] at h2
        have hlt := sub_lt (hset r h3) (hset a hmem) h2.2 h2.1
        have hr : r ∈ pre := by
          rw [e', List.mem_append, List.mem_cons] at h3
          rcases h3 with h3 | h3 | h3
          · exact h3
          · exact absurd h3 h2.1
          · have := stoZ.as (hpost r h3)
            rw [hlt] at this; cases this
        obtain ⟨q, h5, h6⟩ := minStep_cov pre r hr h4
        exact ⟨q, h5, inL_tr h6 h2.2⟩
    rw [minStep_eq, hany, ← ih]
    rw [List.filter_cons, List.filter_nil]
    show (if _ then _ else _) = _ ++ (if (p a && !((ps.filter p).any fun low => !decide (low = a) && inL low a)) = true then [a] else [])
    rw [Bool.and_comm (p a)]
    split
    · rfl
    · rw [List.append_nil]
  have := key ps [] (by simp)
  exact this
theorem min_subs {n : Nat} {p : List Int → Bool} : (subs n).foldl (minStep p) [] = leastOf ((subs n).filter p) := by
  rw [min_least (n := n) (subs n) (subs_strict n) (fun a ha => subs_mem.mp ha) (fun a _ b hb _ _ => subs_mem.mpr hb)]
  unfold leastOf
  rw [List.filter_filter]
  refine List.filter_congr fun a _ => ?_
  rw [Bool.and_comm]
end Pu

/-! ======== N5 ======== -/
namespace Pu
open PySem
local macro_rules | `(tactic| and_intros) => `(tactic| repeat' first
  | exact nt0 | exact nt1 | exact nt2 | exact Nat.zero_lt_two | exact Nat.one_lt_two
  | exact e_var ⟨rfl⟩ Nat.zero_lt_two | exact e_var ⟨rfl⟩ Nat.one_lt_two | exact e_varb ⟨rfl⟩
  | apply e_int | apply e_bl | apply e_non | apply e_str | apply e_gfn | apply e_gint
  | exact es_nil | apply es_cons | apply e_tup | apply e_lst | apply e_bin | apply e_neg | apply e_cmp | apply e_chain | apply e_isN
  | apply e_and | apply e_or | apply e_not | apply e_ite | apply e_call | apply e_blt | apply e_isin | apply e_fld | apply e_idx
  | apply e_lcid | apply e_lcm | apply e_lcf | apply e_sortk
  | exact cl_inst | exact fd_inst | exact ix0 | exact ix1 | exact ix2
  | apply ew | apply cw
  | apply e_tupS | apply e_lstS | apply sr_rng1 | apply sr_rng2 | apply sr_enum | apply sr_zipt | apply sr_zipl | exact sr_dk ⟨rfl⟩ | apply sr_ex
  | exact tb_nm | exact tb_pr
  | exact can_int | exact can_bl | exact can_tp | exact can_ls | exact can_id | apply can_pr | apply can_tp1
  | exact e_no | exact lk rfl
  | exact b_addi | exact b_subi | apply b_addt | apply b_addl | apply b_addt1
  | exact c_lti | exact c_lei | exact c_gti | exact c_gei | exact c_eqi | exact c_nei | exact c_eqb | exact c_neb
  | exact c_eqt (by decide) | exact c_net (by decide) | exact c_eql (by decide) | exact c_nel (by decide)
  | exact c_int rfl (by decide) | exact c_inl rfl (by decide) | exact c_nint rfl (by decide) | exact c_ninl rfl (by decide)
  | exact bl_all | exact bl_any | exact bl_sum | exact bl_lent | exact bl_lenl | exact bl_lent' | exact bl_lenl' | exact bl_tupl | exact bl_tupt | exact bl_lstl | exact bl_lstt | exact bl_int
  | exact bl_sorted sb_int (by decide) | exact bl_sorted sb_pr (by decide) | exact bl_sorted sb_ls (by decide)
  | exact sb_int | exact sb_pr | exact sb_ls
  | apply s_ret | apply s_asg | apply s_asgb | apply s_asgt | apply s_par | exact s_nil | (refine s_frz ⟨rfl⟩ ?_) | (refine s_frzd ⟨rfl⟩ ?_) | apply s_expr
  | assumption
  | rfl
  | omega
  | intro _)
/-! more rules -/
section
variable {g : G} {m : Nat} {ρ : Rho} {S : Sx} {ss : Ss} {r : RS}
theorem e_tupS {s : Src} {ds : List D} (h : Sr g s 1 ρ S ds) (hm : m < 2) : Ev g (.tupS s) m ρ S (.tup ds) := ⟨by rw [E.den, onlyNew_ok hm, h.eq]; rfl⟩
theorem e_lstS {s : Src} {ds : List D} (h : Sr g s 1 ρ S ds) : Ev g (.lstS s) m ρ S (.lst ds) := ⟨by rw [E.den, h.eq]; rfl⟩
theorem sortkM_ok {T : Tab} {n k : Nat} {α β : Type} [DecidableEq β] {i : α → D} {j : β → D} {d : α → D} {κ : α → β} {lt : β → β → Bool} {q : Nat} {l : List α}
    (hk : ∀ a ∈ l, Cw T n k [i a] S (d a)) (hd : Can l d j κ) (hf : T.fr k = false) (hb : Sb j (l.map κ)) [Gd j q] (hq : q ≤ 64) [Od j lt] : sortkM (gAt T n) k (.lst (l.map i)) S = .ok (.lst ((isort (leBy lt κ) l).map i)) S := by
  have e1 : lcGo (keyF (gAt T n) k) (l.map i) S = .ok ((l.map κ).map j) S := by
    rw [lcGo_fm (h := fun a => some (j (κ a))) l]
    · rw [List.filterMap_eq_map', List.map_map]; rfl
    · intro a ha
      unfold keyF G.call0
      rw [if_neg (by show ¬ T.fr k = true; rw [hf]; decide)]
      show R.bind (run T n false k [i a] S) _ = _
      rw [(hk a ha).eq, hd.eq a ha]
      rfl
  show (noX (lcGo (keyF (gAt T n) k) (l.map i) S)).bind _ = _
  rw [e1]
  show (if sortOk (D.pys ((l.map κ).map j)) then R.ok (D.lst (sortBy (l.map i) ((l.map κ).map j))) S else .stuck) = _
  have : sortOk (D.pys ((l.map κ).map j)) = true := by
    unfold sortOk
    rw [od_alikeB, hb.eq, od_shB hq]; rfl
  rw [if_pos this, sortBy_ok]
theorem e_sortkd {T : Tab} {n k i : Nat} {γ β : Type} [DecidableEq β] {jv : γ → D} {j : β → D} {d : List Int → D} {κ : List Int → β} {lt : β → β → Bool} {q : Nat} {l : List (List Int × γ)} (h : Lk ρ i (.dd (kvD jv l)))
    (hk : ∀ a ∈ l.map (·.1), Cw T n k [iT a] S (d a)) (hd : Can (l.map (·.1)) d j κ) (hf : T.fr k = false) (hb : Sb j ((l.map (·.1)).map κ)) [Gd j q] (hq : q ≤ 64) [Od j lt] : Ev (gAt T n) (.sortkd i k) m ρ S (.lst ((isort (leBy lt κ) (l.map (·.1))).map iT)) := ⟨by
  rw [E.den]
  unfold dictAt
  rw [h.eq]
  show sortkM (gAt T n) k (.lst ((kvD jv l).map fun kv => keyD kv.1)) S = _
  have e : ((kvD jv l).map fun kv => keyD kv.1) = (l.map (·.1)).map iT := by rw [List.map_map, List.map_map]; rfl
  rw [e]
  exact sortkM_ok hk hd hf hb hq⟩
theorem e_eqi {T : Tab} {n : Nat} {neg : Bool} {a b : E} {c f : Nat} {ds es : List D} {q : Bool} (h1 : Ev (gAt T n) a 0 ρ S (.ins c ds)) (h2 : Ev (gAt T n) b 0 ρ S (.ins c es)) (hf : T.eqf c = some f) (hfr : T.fr f = false) (hc : Cg T n f [.ins c ds, .ins c es] S (.bl q)) (hm : m < 2) : Ev (gAt T n) (.eqi neg a b) m ρ S (.bl (if neg then !q else q)) := ⟨by
  rw [E.den, onlyNew_ok hm, h1.eq]
  show R.bind (b.den (gAt T n) 0 ρ S) _ = _
  rw [h2.eq]
  show eqiM (gAt T n) neg (.ins c ds) (.ins c es) S = _
  unfold eqiM
  dsimp only
  rw [if_pos rfl]
  show (match T.eqf c with
    | some f => _
    | none => _) = _
  rw [hf]
  show (noX ((gAt T n).call0 f [.ins c ds, .ins c es] S)).bind _ = _
  unfold G.call0
  rw [if_neg (by show ¬ T.fr f = true; rw [hfr]; decide)]
  show (noX (run T n false f [.ins c ds, .ins c es] S)).bind _ = _
  rw [hc.eq]; rfl⟩
theorem s_asgd1 {i : Nat} {k e : E} {β : Type} {j : β → D} {key : List Int} {v : β} (h1 : Ev g k 0 ρ S (iT key)) (h2 : Ev g e 0 ρ S (j v)) (h : Sv g ss (ρ.set i (.dd (kvD j [(key, v)]))) S r) : Sv g (.cons (.asgd1 i k e) ss) ρ S r := ⟨by
  rw [Ss.den, Pu.S.den, h1.eq]
  show RS.next? (R.toS (e.den g 0 ρ S) _) _ = _
  rw [h2.eq]
  show RS.next? (match keyOf (iT key) with | some k => _ | none => _) _ = _
  rw [keyOf_ok]
  exact h.eq⟩
theorem e_dlsO {i : Nat} {β : Type} {j : β → D} {l : List (List Int × β)} (hi : Lk ρ i (.dd (kvD j l))) : Ev g (.dls i) m ρ S (.lst ((l.map (·.1)).map iT)) := ⟨by
  rw [E.den]
  unfold dictAt
  rw [hi.eq]
  show R.ok (D.lst ((kvD j l).map fun kv => keyD kv.1)) S = _
  rw [List.map_map, List.map_map]
  rfl⟩
end
/-! sums -/
theorem sum_map_len {α : Type} (f : α → Nat) (l : List α) : ((l.map fun a => ((f a : Nat) : Int)).sum) = (((l.map f).sum : Nat) : Int) := by
  induction l with
  | nil => rfl
  | cons a l ih => simp [ih]
theorem bl_sortedT {α : Type} [DecidableEq α] {i : α → D} {l : List α} {k : Nat} {lt : α → α → Bool} [Gd i k] [Od i lt] (hb : Sb i l) (hk : k ≤ 64) : Bl .sorted [.tup (l.map i)] (.lst ((srt lt l).map i)) := ⟨by
  show (if sortOk (D.pys (l.map i)) then some (D.lst (sortD D.py (l.map i))) else none) = _
  have : sortOk (D.pys (l.map i)) = true := by
    unfold sortOk
    rw [od_alikeB, hb.eq, od_shB hk]; rfl
  rw [if_pos this, sortD_ok]⟩
theorem rowsD_iT : ∀ l : List (List Int), rowsD (l.map iT) = some l
  | [] => rfl
  | a :: l => by
    have h : keyOf (iT a) = some a := by
      show intsD (a.map D.int) = some a
      induction a with
      | nil => rfl
      | cons x a ih =>
        show (intsD (a.map D.int)).map (x :: ·) = _
        rw [ih]; rfl
    show ((keyOf (iT a)).bind fun k => (rowsD (l.map iT)).map (k :: ·)) = _
    rw [h, rowsD_iT l]; rfl
theorem e_ssetT {g : G} {m : Nat} {ρ : Rho} {S : Sx} {e : E} {l : List (List Int)} (h : Ev g e 1 ρ S (.lst (l.map iT))) (hl : l.length < 64) : Ev g (.sset e) m ρ S (.lst ((sortU ltRow l).map iT)) := ⟨by
  rw [E.den, h.eq]
  show R.of S (ssetD (.lst (l.map iT))) = _
  have e1 : ssetD (.lst (l.map iT)) = some (.lst ((sortU ltRow l).map iT)) := by
    show (if (l.map iT).length < 64 then _ else none) = _
    rw [if_pos (by rw [List.length_map]; exact hl)]
    cases l with
    | nil => rfl
    | cons a l =>
      show (rowsD ((a :: l).map iT)).map (fun L => D.lst ((sortU ltRow L).map keyD)) = _
      rw [rowsD_iT]
      rfl
  rw [e1]; rfl⟩
theorem e_upto {g : G} {m : Nat} {ρ : Rho} {S : Sx} {e : E} {v : Nat} {α : Type} {i : α → D} {l : List α} {z : Int} (h : Ev g e 1 ρ S (.tup (l.map i))) (hk : Ev g (.var v) 0 ρ S (.int z)) (h0 : 0 ≤ z) (hm : m < 2) : Ev g (.slc e .no (.var v)) m ρ S (.tup ((l.take z.toNat).map i)) := ⟨by
  rw [E.den, h.eq]
  have e1 : cutD (l.map i) none (some z) = (l.take z.toNat).map i := by
    unfold cutD
    rw [HT.sIx_none, show (some z : Option Int) = some ((z.toNat : Nat) : Int) by rw [Int.toNat_of_nonneg h0], HT.sIx_nat, List.drop_zero, Nat.sub_zero, ← List.take_eq_take_min, List.map_take]
  unfold natM
  rw [if_pos hm]
  show R.bind (R.ok (none : Option Int) S) (fun l' S => R.bind (partR ((E.var v).den g 0 ρ S)) fun h S => R.of S (slcD (.tup (l.map i)) l' h)) = _
  show R.bind (partR ((E.var v).den g 0 ρ S)) (fun h S => R.of S (slcD (.tup (l.map i)) none h)) = _
  rw [hk.eq]
  show R.of S (some (D.tup (cutD (l.map i) none (some z)))) = _
  rw [e1]; rfl⟩
end Pu

/-! ======== N6 ======== -/
namespace Pu
open PySem
local macro_rules | `(tactic| and_intros) => `(tactic| repeat' first
  | exact nt0 | exact nt1 | exact nt2 | exact Nat.zero_lt_two | exact Nat.one_lt_two
  | exact e_var ⟨rfl⟩ Nat.zero_lt_two | exact e_var ⟨rfl⟩ Nat.one_lt_two | exact e_varb ⟨rfl⟩
  | apply e_int | apply e_bl | apply e_non | apply e_str | apply e_gfn | apply e_gint
  | exact es_nil | apply es_cons | apply e_tup | apply e_lst | apply e_bin | apply e_neg | apply e_cmp | apply e_chain | apply e_isN
  | apply e_and | apply e_or | apply e_not | apply e_ite | apply e_call | apply e_blt | apply e_isin | apply e_fld | apply e_idx
  | apply e_lcid | apply e_lcm | apply e_lcf | apply e_sortk
  | exact cl_inst | exact fd_inst | exact ix0 | exact ix1 | exact ix2
  | apply ew | apply cw
  | apply e_tupS | apply e_lstS | apply sr_rng1 | apply sr_rng2 | apply sr_enum | apply sr_zipt | apply sr_zipl | exact sr_dk ⟨rfl⟩ | apply sr_ex
  | exact tb_nm | exact tb_pr
  | exact can_int | exact can_bl | exact can_tp | exact can_ls | exact can_id | apply can_pr | apply can_tp1
  | exact e_no | exact lk rfl
  | exact b_addi | exact b_subi | apply b_addt | apply b_addl | apply b_addt1
  | exact c_lti | exact c_lei | exact c_gti | exact c_gei | exact c_eqi | exact c_nei | exact c_eqb | exact c_neb
  | exact c_eqt (by decide) | exact c_net (by decide) | exact c_eql (by decide) | exact c_nel (by decide)
  | exact c_int rfl (by decide) | exact c_inl rfl (by decide) | exact c_nint rfl (by decide) | exact c_ninl rfl (by decide)
  | exact bl_all | exact bl_any | exact bl_sum | exact bl_lent | exact bl_lenl | exact bl_lent' | exact bl_lenl' | exact bl_tupl | exact bl_tupt | exact bl_lstl | exact bl_lstt | exact bl_int
  | exact bl_sorted sb_int (by decide) | exact bl_sorted sb_pr (by decide) | exact bl_sorted sb_ls (by decide)
  | exact sb_int | exact sb_pr | exact sb_ls
  | apply s_ret | apply s_asg | apply s_asgb | apply s_asgt | apply s_par | exact s_nil | (refine s_frz ⟨rfl⟩ ?_) | (refine s_frzd ⟨rfl⟩ ?_) | apply s_expr
  | assumption
  | rfl
  | omega
  | intro _)
/-! loops that name only what changes; facts as instances -/
class Fc (p : Prop) : Prop where
  out : p
section
variable {g : G} {m : Nat} {ρ : Rho} {S : Sx} {ss : Ss} {r : RS}
/-- a loop: mk puts what changes into the environment; Inv is kept -/
theorem s_forR {t : Tg} {src : Src} {body : Ss} {kill : List Nat} {α σ ζ : Type} {i : α → D} {l : List α} (mk : Rho → σ → ζ → Rho) (Inv : List α → σ → Prop) {step : σ → α → σ} {s0 : σ} (z0 : ζ)
    (hs : Sr g src 0 ρ S (l.map i)) (h0 : ρ = mk ρ s0 z0) (i0 : Inv [] s0)
    (hb : ∀ pre a post s, l = pre ++ a :: post → Inv pre s → ∀ z, ∃ z', Tu g t body (i a) (mk ρ s z) S (mk ρ (step s a) z') ∧ Inv (pre ++ [a]) (step s a))
    (hw : ∀ z, wipe (mk ρ (l.foldl step s0) z) kill = wipe (mk ρ (l.foldl step s0) z0) kill) (h2 : Inv l (l.foldl step s0) → Sv g ss (wipe (mk ρ (l.foldl step s0) z0) kill) S r) : Sv g (.cons (.for_ t src body kill) ss) ρ S r := by
  have key : ∀ pre post, l = pre ++ post → Inv pre (pre.foldl step s0) := by
    intro pre
    induction pre using snoc_ind with
    | h0 => intro _ _; exact i0
    | h1 pre a ih =>
      intro post e
      have e' : l = pre ++ a :: post := by rw [e]; simp
      obtain ⟨_, _, h⟩ := hb pre a post _ e' (ih _ e') z0
      rw [List.foldl_append]
      exact h
  refine s_for (i := i) (l := l) (mk ρ) step s0 z0 hs h0 (fun pre a post e z => ?_) (fun z => hw z) (h2 (key l [] (by simp)))
  obtain ⟨z', h, _⟩ := hb pre a post _ e (key pre _ e) z
  exact ⟨z', h⟩
structure Fo (g : G) (t : Tg) (body : Ss) (ds : List D) (ρ : Rho) (S : Sx) (ρ' : Rho) : Prop where
  eq : forGo (fun d ρ S => match t.bind d ρ with
      | some ρ' => body.den g ρ' S
      | none => .stuck) ds ρ S = .next ρ' S
theorem fo_nil {t : Tg} {body : Ss} : Fo g t body [] ρ S ρ := ⟨rfl⟩
theorem fo_cons {t : Tg} {body : Ss} {d : D} {ds : List D} {ρ1 ρ2 : Rho} (h : Tu g t body d ρ S ρ1) (h2 : Fo g t body ds ρ1 S ρ2) : Fo g t body (d :: ds) ρ S ρ2 := ⟨by
  obtain ⟨ρ', e1, e2⟩ := h.eq
  show RS.next? (match t.bind d ρ with
      | some ρ' => body.den g ρ' S
      | none => .stuck) _ = _
  rw [e1]
  show RS.next? (body.den g ρ' S) _ = _
  rw [e2]
  exact h2.eq⟩
/-- a loop over things that are written out -/
theorem s_unroll {t : Tg} {src : Src} {body : Ss} {kill : List Nat} {ds : List D} {ρ1 : Rho} (hs : Sr g src 0 ρ S ds) (h : Fo g t body ds ρ S ρ1) (h2 : Sv g ss (wipe ρ1 kill) S r) : Sv g (.cons (.for_ t src body kill) ss) ρ S r := ⟨by
  rw [Ss.den, Pu.S.den, hs.eq]
  have e' := congrArg (fun q => RS.next? (RS.next? q fun ρ S => .next (wipe ρ kill) S) fun ρ S => ss.den g ρ S) h.eq
  exact e'.trans h2.eq⟩
/-- both ways end alike but for what mk puts in -/
theorem s_iteM {c : E} {a b : Ss} {p : Bool} {σ : Type} (mk : σ → Rho) {sa sb : σ} (h : Ev g c 0 ρ S (.bl p)) (h1 : p = true → Sv g a ρ S (.next (mk sa) S)) (h2 : p = false → Sv g b ρ S (.next (mk sb) S)) (h3 : Sv g ss (mk (bif p then sa else sb)) S r) : Sv g (.cons (.ite c a b) ss) ρ S r := ⟨by
  rw [Ss.den, Pu.S.den, h.eq]
  cases p with
  | true => 
    show RS.next? (a.den g ρ S) _ = _
    rw [(h1 rfl).eq]; exact h3.eq
  | false =>
    show RS.next? (b.den g ρ S) _ = _
    rw [(h2 rfl).eq]; exact h3.eq⟩
theorem set_self {i : Nat} {s : Sl} (h : Lk ρ i s) : ρ.set i s = ρ := by
  apply List.ext_getElem?
  intro j
  rw [List.getElem?_set]
  split
  · rename_i e; subst e
    split
    · exact h.eq.symm
    · rename_i e; rw [List.getElem?_eq_none (Nat.le_of_not_lt e)]
  · rfl
theorem s_appj {i : Nat} {e : E} {α : Type} {j : α → D} {L : List α} {x : α} (h : Ev g e 0 ρ S (j x)) (hi : Lk ρ i (.b (L.map j))) (hl : L.length < 16777216) (h2 : Sv g ss (ρ.set i (.b ((L ++ [x]).map j))) S r) : Sv g (.cons (.app i e) ss) ρ S r :=
  s_app h hi (by rw [List.length_map]; exact hl) (by rw [List.map_append] at h2; exact h2)
theorem s_appIf {i : Nat} {c e : E} {α : Type} {j : α → D} {L : List α} {x : α} {p : Bool} (h : Ev g c 0 ρ S (.bl p)) (hi : Lk ρ i (.b (L.map j))) (he : p = true → Ew g e 0 ρ S (j x)) (hl : L.length < 16777216)
    (h2 : Sv g ss (ρ.set i (.b ((L ++ (bif p then [x] else [])).map j))) S r) : Sv g (.cons (.ite c (.cons (.app i e) .nil) .nil) ss) ρ S r := by
  cases p with
  | true => exact s_iteT h (s_appj ⟨(he rfl).eq⟩ hi hl h2)
  | false =>
    refine s_iteF h ?_
    show Sv g ss ρ S r
    have : ρ.set i (.b ((L ++ (bif false then [x] else [])).map j)) = ρ := by
      rw [cond_false, List.append_nil]; exact set_self hi
    rw [← this]; exact h2
theorem tu_nm' {v : Nat} {body : Ss} {d : D} {ρ2 : Rho} (h : Sv g body (ρ.set v (.v d)) S (.next ρ2 S)) : Tu g (.nm v) body d ρ S ρ2 := tu_nm h
theorem tu_tp3 {u v w : Nat} {body : Ss} {a b c : D} {ρ2 : Rho} (h : Sv g body (((ρ.set u (.v a)).set v (.v b)).set w (.v c)) S (.next ρ2 S)) : Tu g (.tp [u, v, w]) body (.tup [a, b, c]) ρ S ρ2 := ⟨_, rfl, h.eq⟩
theorem s_nil' {ρ' : Rho} (h : ρ = ρ') : Sv g .nil ρ S (.next ρ' S) := h ▸ s_nil
/-- `for t in src: if c: found.append(e)`, neither looking at what is found -/
theorem s_forApp {t : Tg} {src : Src} {kill : List Nat} {i : Nat} {c e : E} {α β ζ : Type} {ia : α → D} {j : β → D} {l : List α} {p : α → Bool} {f : α → β} {L0 : List β} (mk : Rho → List β → ζ → Rho) (z0 : ζ)
    (hs : Sr g src 0 ρ S (l.map ia)) (h0 : ρ = mk ρ L0 z0)
    (hb : ∀ a ∈ l, ∀ L z, ∃ ρ', t.bind (ia a) (mk ρ L z) = some ρ' ∧ Ew g c 0 ρ' S (.bl (p a)) ∧ (p a = true → Ew g e 0 ρ' S (j (f a))) ∧ Lk ρ' i (.b (L.map j)) ∧ ∀ L', ∃ z', ρ'.set i (.b (L'.map j)) = mk ρ L' z')
    (hl : L0.length + l.length ≤ 16777216)
    (hw : ∀ z, wipe (mk ρ (L0 ++ (l.filter p).map f) z) kill = wipe (mk ρ (L0 ++ (l.filter p).map f) z0) kill) (h2 : Sv g ss (wipe (mk ρ (L0 ++ (l.filter p).map f) z0) kill) S r) : Sv g (.cons (.for_ t src (.cons (.ite c (.cons (.app i e) .nil) .nil) .nil) kill) ss) ρ S r := by
  have ef : l.foldl (fun L a => L ++ (bif p a then [f a] else [])) L0 = L0 ++ (l.filter p).map f := by
    rw [← foldl_if_app]
    congr 1
    funext acc a
    cases p a <;> simp
  rw [← ef] at hw h2
  refine s_forR mk (fun pre L => L.length ≤ L0.length + pre.length) z0 hs h0 (Nat.le_refl _) (fun pre a post L el hL z => ?_) hw (fun _ => h2)
  obtain ⟨ρ', h1, hc, he, hi, hm⟩ := hb a (el ▸ List.mem_append_right _ List.mem_cons_self) L z
  obtain ⟨z', hz⟩ := hm (L ++ (bif p a then [f a] else []))
  have hlen := congrArg List.length el
  rw [List.length_append, List.length_cons] at hlen
  refine ⟨z', ⟨ρ', h1, (s_appIf (x := f a) ⟨hc.eq⟩ hi he (by omega) (s_nil' hz)).eq⟩, ?_⟩
  rw [List.length_append, List.length_append, List.length_singleton]
  cases p a <;> simp <;> omega
theorem wf_eq : WF = 100000000 := by unfold WF; rfl
/-- a while loop: the measure goes down -/
theorem s_while {c : E} {body : Ss} {kill : List Nat} {σ : Type} (mk : Rho → σ → Rho) (Inv : σ → Prop) (cb : σ → Bool) (step : σ → σ) (μ : σ → Nat) {s0 : σ} (h0 : ρ = mk ρ s0) (i0 : Inv s0)
    (hc : ∀ s, Inv s → Ew g c 0 (mk ρ s) S (.bl (cb s)))
    (hb : ∀ s, Inv s → cb s = true → Sv g body (mk ρ s) S (.next (mk ρ (step s)) S) ∧ Inv (step s) ∧ μ (step s) < μ s) (hf : μ s0 < g.wf)
    (h2 : ∀ s, Inv s → cb s = false → Sv g ss (wipe (mk ρ s) kill) S r) : Sv g (.cons (.while_ c body kill) ss) ρ S r := by
  have key : ∀ (n : Nat) (s : σ), Inv s → μ s < n → ∃ s', Inv s' ∧ cb s' = false ∧ whileGo (fun ρ S => truth (c.den g 0 ρ S)) (fun ρ S => body.den g ρ S) n (mk ρ s) S = .next (mk ρ s') S := by
    intro n
    induction n with
    | zero => intro s _ h; exact absurd h (Nat.not_lt_zero _)
    | succ n ih =>
      intro s hs hn
      have e1 : truth (c.den g 0 (mk ρ s) S) = .ok (cb s) S := by rw [(hc s hs).eq]; rfl
      cases hcb : cb s with
      | false =>
        refine ⟨s, hs, hcb, ?_⟩
        show R.toS (truth (c.den g 0 (mk ρ s) S)) _ = _
        rw [e1, hcb]; rfl
      | true =>
        obtain ⟨q1, q2, q3⟩ := hb s hs hcb
        obtain ⟨s', p1, p2, p3⟩ := ih (step s) q2 (by omega)
        refine ⟨s', p1, p2, ?_⟩
        show R.toS (truth (c.den g 0 (mk ρ s) S)) _ = _
        rw [e1, hcb]
        show RS.next? (body.den g (mk ρ s) S) _ = _
        rw [q1.eq]
        exact p3
  obtain ⟨s', p1, p2, p3⟩ := key g.wf s0 i0 hf
  refine ⟨?_⟩
  rw [Ss.den, Pu.S.den]
  have h0' := congrArg (fun q => whileGo (fun ρ S => truth (c.den g 0 ρ S)) (fun ρ S => body.den g ρ S) g.wf q S) h0
  have e' := congrArg (fun q => RS.next? (RS.next? q fun ρ S => .next (wipe ρ kill) S) fun ρ S => ss.den g ρ S) (h0'.trans p3)
  exact e'.trans (h2 s' p1 p2).eq
end
theorem sr_rlenl {g : G} {m : Nat} {ρ : Rho} {S : Sx} {e : E} {α : Type} {i : α → D} {l : List α} (h : Ev g e 1 ρ S (.lst (l.map i))) (hl : l.length ≤ 16777216) : Sr g (.rng1 (.blt .len (.cons e .nil))) m ρ S ((rg 0 l.length).map D.int) := by
  have := sr_rng1 (m := m) (e_blt (m := 0) (es_cons h es_nil) bl_lenl nt0) ⟨by omega, by omega⟩
  rwa [Int.toNat_natCast] at this
theorem sr_rlent {g : G} {m : Nat} {ρ : Rho} {S : Sx} {e : E} {α : Type} {i : α → D} {l : List α} (h : Ev g e 1 ρ S (.tup (l.map i))) (hl : l.length ≤ 16777216) : Sr g (.rng1 (.blt .len (.cons e .nil))) m ρ S ((rg 0 l.length).map D.int) := by
  have := sr_rng1 (m := m) (e_blt (m := 0) (es_cons h es_nil) bl_lent nt0) ⟨by omega, by omega⟩
  rwa [Int.toNat_natCast] at this
theorem run_def {T : Tab} {n k : Nat} {ds : List D} {S : Sx} {np ns : Nat} {b : Ss} {df : Option Int} (hf : T.fns k = some ⟨np, ns, b, df⟩) (hl : ds.length = np) : run T (n + 1) false k ds S = endFn (T.fr k) (b.den (gAt T n) (startD ns ds) S) := by
  show (match T.fns k with
    | some f => if ds.length = f.np then endFn (T.fr k) (f.body.den (gAt T n) (startD f.ns ds) S) else .stuck
    | none => .stuck) = _
  rw [hf]
  exact if_pos hl
theorem cl_def {T : Tab} {n k : Nat} {ds : List D} {S : Sx} {d : D} {np ns : Nat} {b : Ss} {df : Option Int} (ρ : Rho) (hf : T.fns k = some ⟨np, ns, b, df⟩) (hl : ds.length = np) (hfr : T.fr k = false) (hρ : startD ns ds = ρ) (h : Sv (gAt T n) b ρ S (.ret false d S)) : Cg T (n + 1) k ds S d := ⟨by
  rw [run_def hf hl, hfr, hρ, h.eq]; rfl⟩
theorem cl_defN {T : Tab} {n k : Nat} {ds : List D} {S : Sx} {np ns : Nat} {b : Ss} {df : Option Int} (ρ : Rho) {ρ' : Rho} (hf : T.fns k = some ⟨np, ns, b, df⟩) (hl : ds.length = np) (hfr : T.fr k = false) (hρ : startD ns ds = ρ) (h : Sv (gAt T n) b ρ S (.next ρ' S)) : Cg T (n + 1) k ds S .non := ⟨by
  rw [run_def hf hl, hfr, hρ, h.eq]; rfl⟩
theorem Lk.ne {ρ : Rho} {i j : Nat} {s x : Sl} (h : Lk ρ i s) (hne : j ≠ i) : Lk (ρ.set j x) i s := ⟨by rw [List.getElem?_set_ne hne]; exact h.eq⟩
theorem Lk.at {ρ : Rho} {i : Nat} {x : Sl} (h : i < ρ.length) : Lk (ρ.set i x) i x := ⟨List.getElem?_set_self h⟩
end Pu

/-! ======== K58 ======== -/
namespace Pu
open PySem PySem.Spec PyProof.Rows L2

def clsBody : Stmt → List Stmt
  | .ClassDef (body := b) .. => b
  | _ => []
def top (i : Nat) : Stmt := PySem.Challenge.pw_conceptroads_k58_whole_looks_and_what_is.main.body.getD i (.Pass ⟨0, 0, 0, 0⟩)
def mem (i j : Nat) : Stmt := (clsBody (top i)).getD j (.Pass ⟨0, 0, 0, 0⟩)

abbrev k__law_state : Nat := 0
abbrev k__law_rows : Nat := 1
abbrev k__law_take : Nat := 2
abbrev k__law_classes : Nat := 3
abbrev k__law_joined : Nat := 4
abbrev k__law_set : Nat := 5
abbrev k_Table___init__ : Nat := 6
abbrev k_is_integer : Nat := 7
abbrev k_is_set : Nat := 8
abbrev k_look_classes : Nat := 9
abbrev k_check_table : Nat := 10
abbrev k_check_set : Nat := 11
abbrev k_met : Nat := 12
abbrev k_inside : Nat := 13
abbrev k_within : Nat := 14
abbrev k_outside : Nat := 15
abbrev k_Ratio___eq__ : Nat := 16
abbrev k_Ratio___init__ : Nat := 17
abbrev k_common : Nat := 18
abbrev k__law_same : Nat := 19
abbrev k__law_is_whole : Nat := 20
abbrev k_edge : Nat := 21
abbrev k_is_sharp : Nat := 22
abbrev k_told_things : Nat := 23
abbrev k_is_finer_look : Nat := 24
abbrev k_sharp_sets : Nat := 25
abbrev k_size_key : Nat := 26
abbrev k__law_told : Nat := 27
abbrev k_difference_rows : Nat := 28
abbrev k__law_subsets : Nat := 29
abbrev k_enough_for : Nat := 30
abbrev k_subsets_of : Nat := 31
abbrev k_set_key : Nat := 32
abbrev k__law_within : Nat := 33
abbrev k_sharpness : Nat := 34
abbrev k_told_share : Nat := 35
abbrev k_enough_sets : Nat := 36
abbrev k_core_of : Nat := 37
abbrev c_Ratio : Nat := 0
abbrev c_Table : Nat := 1
abbrev c_ZeroDivisor : Nat := 2
abbrev c_Malformed : Nat := 3
abbrev c_Refused : Nat := 4
abbrev g_MOST : Nat := 0
def b__law_state : Ss := (.cons (.asg (.nm 1) (.int 0)) (.cons (.asg (.nm 2) (.int 1)) (.cons (.for_ (.nm 3) (.ex (.slc (.var 0) .no (.int 63))) (.cons (.asg (.nm 1) (.bin .add (.bin .mul (.var 1) (.int 1000003)) (.blt .abs (.cons (.var 3) .nil)))) (.cons (.asg (.nm 2) (.bin .mod (.blt .int (.cons (.bin .add (.bin .mul (.var 2) (.int 48271)) (.var 3)) .nil)) (.int 2147483647))) .nil)) [3]) (.cons (.retf (.lst (.cons (.var 1) (.cons (.ite (.cmp .ne (.var 2) (.int 1973665155)) (.var 2) (.int 7)) .nil)))) .nil))))
def f__law_state : FnT := ⟨⟨("_law_state", none), "_law_state", "_law_state", defArgs (top 40), defBody (top 40), defScope (top 40), [], []⟩, ["script", "seed", "total", "cell"], ["script"], b__law_state, true⟩
def b__law_rows : Ss := (.cons (.asg (.nm 3) (.call k__law_take (.cons (.var 0) (.cons (.int 3) .nil)))) (.cons (.ret (.lc (.blt .tuple (.cons (.lc (.var 5) (.nm 5) (.rng1 (.var 2)) (.cmp .lt (.call k__law_take (.cons (.var 0) (.cons (.int 4) .nil))) (.bin .add (.int 1) (.var 3))) [5]) .nil)) (.nm 4) (.rng1 (.var 1)) .no [4])) .nil))
def f__law_rows : FnT := ⟨⟨("_law_rows", none), "_law_rows", "_law_rows", defArgs (top 46), defBody (top 46), defScope (top 46), [], []⟩, ["state", "n", "m", "kind", "g", "x"], ["state", "n", "m"], b__law_rows, false⟩
def b__law_take : Ss := (.cons (.ite (.cmp .gt (.idx (.var 0) (.int 0)) (.int 0)) (.cons (.asg (.nm 2) (.bin .mod (.blt .int (.cons (.idx (.var 0) (.int 0)) .nil)) (.var 1))) (.cons (.setst 0 (.int 0) (.bin .fdiv (.idx (.var 0) (.int 0)) (.var 1))) (.cons (.ret (.var 2)) .nil))) .nil) (.cons (.setst 0 (.int 1) (.bin .mod (.blt .int (.cons (.bin .add (.bin .mul (.idx (.var 0) (.int 1)) (.int 48271)) (.int 11)) .nil)) (.int 2147483647))) (.cons (.ret (.bin .mod (.blt .int (.cons (.bin .fdiv (.idx (.var 0) (.int 1)) (.int 7)) .nil)) (.var 1))) .nil)))
def f__law_take : FnT := ⟨⟨("_law_take", none), "_law_take", "_law_take", defArgs (top 41), defBody (top 41), defScope (top 41), [], []⟩, ["state", "m", "value"], ["state", "m"], b__law_take, false⟩
def b__law_classes : Ss := (.cons (.asgd 2) (.cons (.for_ (.nm 3) (.rng1 (.blt .len (.cons (.var 0) .nil))) (.cons (.asg (.nm 4) (.blt .tuple (.cons (.lc (.var 5) (.nm 5) (.ex (.var 1)) (.cmp .inn (.var 5) (.idx (.var 0) (.var 3))) [5]) .nil))) (.cons (.putd 2 (.var 4) (.bin .add (.dgd 2 (.var 4) (.tup .nil)) (.tup (.cons (.var 3) .nil)))) .nil)) [3, 4]) (.cons (.frzd 2) (.cons (.ret (.blt .sorted (.cons (.lc (.dix 2 (.var 4)) (.nm 4) (.dk 2) .no [4]) .nil))) .nil))))
def f__law_classes : FnT := ⟨⟨("_law_classes", none), "_law_classes", "_law_classes", defArgs (top 48), defBody (top 48), defScope (top 48), [], []⟩, ["rows", "marks", "found", "g", "own", "m"], ["rows", "marks"], b__law_classes, false⟩
def b__law_joined : Ss := (.cons (.asg (.nm 1) (.lst .nil)) (.cons (.for_ (.nm 2) (.ex (.var 0)) (.cons (.asg (.nm 1) (.bin .add (.var 1) (.blt .list (.cons (.var 2) .nil)))) .nil) [2]) (.cons (.ret (.blt .tuple (.cons (.blt .sorted (.cons (.var 1) .nil)) .nil))) .nil)))
def f__law_joined : FnT := ⟨⟨("_law_joined", none), "_law_joined", "_law_joined", defArgs (top 49), defBody (top 49), defScope (top 49), [], []⟩, ["lot", "found", "own"], ["lot"], b__law_joined, false⟩
def b__law_set : Ss := (.cons (.ret (.blt .tuple (.cons (.lc (.var 2) (.nm 2) (.rng1 (.var 1)) (.cmp .eq (.call k__law_take (.cons (.var 0) (.cons (.int 2) .nil))) (.int 0)) [2]) .nil))) .nil)
def f__law_set : FnT := ⟨⟨("_law_set", none), "_law_set", "_law_set", defArgs (top 45), defBody (top 45), defScope (top 45), [], []⟩, ["state", "n", "x"], ["state", "n"], b__law_set, false⟩
def b_Table___init__ : Ss := (.cons (.for_ (.nm 4) (.ex (.tup (.cons (.var 1) (.cons (.var 2) .nil)))) (.cons (.ite (.or (.not (.call k_is_integer (.cons (.var 4) .nil))) (.not (.chain .le .le (.int 0) (.var 4) (.gint g_MOST)))) (.cons (.raise c_Malformed "a table") .nil) .nil) .nil) [4]) (.cons (.ite (.or (.not (.isin (.var 3) false [.list, .tuple])) (.or (.cmp .ne (.blt .len (.cons (.var 3) .nil)) (.var 1)) (.not (.blt .all (.cons (.lc (.call k_is_set (.cons (.var 5) (.cons (.var 2) .nil))) (.nm 5) (.ex (.var 3)) .no [5]) .nil))))) (.cons (.raise c_Malformed "a table") .nil) .nil) (.cons (.setf 0 "things" (.var 1)) (.cons (.setf 0 "marks" (.var 2)) (.cons (.setf 0 "rows" (.blt .tuple (.cons (.var 3) .nil))) .nil)))))
def f_Table___init__ : FnT := ⟨⟨("Table", some "__init__"), "__init__", "Table.__init__", defArgs (mem 20 0), defBody (mem 20 0), defScope (mem 20 0), [], []⟩, ["self", "things", "marks", "rows", "own", "row"], ["self", "things", "marks", "rows"], b_Table___init__, false⟩
def b_is_integer : Ss := (.cons (.ret (.and (.isin (.var 0) true [.int]) (.not (.isin (.var 0) true [.bool])))) .nil)
def f_is_integer : FnT := ⟨⟨("is_integer", none), "is_integer", "is_integer", defArgs (top 7), defBody (top 7), defScope (top 7), [], []⟩, ["value"], ["value"], b_is_integer, false⟩
def b_is_set : Ss := (.cons (.ite (.or (.not (.isin (.var 0) true [.tuple])) (.not (.blt .all (.cons (.lc (.and (.call k_is_integer (.cons (.var 2) .nil)) (.chain .le .lt (.int 0) (.var 2) (.var 1))) (.nm 2) (.ex (.var 0)) .no [2]) .nil)))) (.cons (.ret (.bl false)) .nil) .nil) (.cons (.ret (.blt .all (.cons (.lc (.cmp .lt (.var 3) (.var 4)) (.tp [3, 4]) (.zip (.var 0) (.slc (.var 0) (.int 1) .no)) .no [3, 4]) .nil))) .nil))
def f_is_set : FnT := ⟨⟨("is_set", none), "is_set", "is_set", defArgs (top 9), defBody (top 9), defScope (top 9), [], []⟩, ["value", "n", "x", "a", "b"], ["value", "n"], b_is_set, false⟩
def b_look_classes : Ss := (.cons (.expr (.call k_check_table (.cons (.var 0) .nil))) (.cons (.expr (.call k_check_set (.cons (.var 1) (.cons (.fld (.var 0) "marks") .nil)))) (.cons (.asgd 2) (.cons (.for_ (.tp [3, 4]) (.enum (.fld (.var 0) "rows")) (.cons (.asg (.nm 5) (.call k_met (.cons (.var 1) (.cons (.var 4) .nil)))) (.cons (.putd 2 (.var 5) (.bin .add (.dgd 2 (.var 5) (.tup .nil)) (.tup (.cons (.var 3) .nil)))) .nil)) [3, 4, 5]) (.cons (.frzd 2) (.cons (.ret (.blt .tuple (.cons (.blt .sorted (.cons (.lc (.dix 2 (.var 5)) (.nm 5) (.dk 2) .no [5]) .nil)) .nil))) .nil))))))
def f_look_classes : FnT := ⟨⟨("look_classes", none), "look_classes", "look_classes", defArgs (top 24), defBody (top 24), defScope (top 24), [], []⟩, ["table", "marks", "found", "g", "row", "own"], ["table", "marks"], b_look_classes, false⟩
def b_check_table : Ss := (.cons (.ite (.not (.isin (.var 0) true [(.own c_Table)])) (.cons (.raise c_Malformed "a table") .nil) .nil) .nil)
def f_check_table : FnT := ⟨⟨("check_table", none), "check_table", "check_table", defArgs (top 22), defBody (top 22), defScope (top 22), [], []⟩, ["value"], ["value"], b_check_table, false⟩
def b_check_set : Ss := (.cons (.ite (.not (.call k_is_set (.cons (.var 0) (.cons (.var 1) .nil)))) (.cons (.raise c_Malformed "a set") .nil) .nil) .nil)
def f_check_set : FnT := ⟨⟨("check_set", none), "check_set", "check_set", defArgs (top 10), defBody (top 10), defScope (top 10), [], []⟩, ["value", "n"], ["value", "n"], b_check_set, false⟩
def b_met : Ss := (.cons (.ret (.blt .tuple (.cons (.lc (.var 2) (.nm 2) (.ex (.var 0)) (.cmp .inn (.var 2) (.var 1)) [2]) .nil))) .nil)
def f_met : FnT := ⟨⟨("met", none), "met", "met", defArgs (top 14), defBody (top 14), defScope (top 14), [], []⟩, ["one", "two", "x"], ["one", "two"], b_met, false⟩
def b_inside : Ss := (.cons (.expr (.call k_check_table (.cons (.var 0) .nil))) (.cons (.expr (.call k_check_set (.cons (.var 2) (.cons (.fld (.var 0) "things") .nil)))) (.cons (.asgb 3 (.lst .nil)) (.cons (.for_ (.nm 4) (.ex (.call k_look_classes (.cons (.var 0) (.cons (.var 1) .nil)))) (.cons (.ite (.call k_within (.cons (.var 4) (.cons (.var 2) .nil))) (.cons (.ext 3 (.blt .list (.cons (.var 4) .nil))) .nil) .nil) .nil) [4]) (.cons (.ret (.blt .tuple (.cons (.blt .sorted (.cons (.var 3) .nil)) .nil))) .nil)))))
def f_inside : FnT := ⟨⟨("inside", none), "inside", "inside", defArgs (top 25), defBody (top 25), defScope (top 25), [], []⟩, ["table", "marks", "things", "found", "own"], ["table", "marks", "things"], b_inside, false⟩
def b_within : Ss := (.cons (.ret (.blt .all (.cons (.lc (.cmp .inn (.var 2) (.var 1)) (.nm 2) (.ex (.var 0)) .no [2]) .nil))) .nil)
def f_within : FnT := ⟨⟨("within", none), "within", "within", defArgs (top 13), defBody (top 13), defScope (top 13), [], []⟩, ["one", "two", "x"], ["one", "two"], b_within, false⟩
def b_outside : Ss := (.cons (.expr (.call k_check_table (.cons (.var 0) .nil))) (.cons (.expr (.call k_check_set (.cons (.var 2) (.cons (.fld (.var 0) "things") .nil)))) (.cons (.asgb 3 (.lst .nil)) (.cons (.for_ (.nm 4) (.ex (.call k_look_classes (.cons (.var 0) (.cons (.var 1) .nil)))) (.cons (.ite (.cmp .gt (.blt .len (.cons (.call k_met (.cons (.var 4) (.cons (.var 2) .nil))) .nil)) (.int 0)) (.cons (.ext 3 (.blt .list (.cons (.var 4) .nil))) .nil) .nil) .nil) [4]) (.cons (.ret (.blt .tuple (.cons (.blt .sorted (.cons (.var 3) .nil)) .nil))) .nil)))))
def f_outside : FnT := ⟨⟨("outside", none), "outside", "outside", defArgs (top 26), defBody (top 26), defScope (top 26), [], []⟩, ["table", "marks", "things", "found", "own"], ["table", "marks", "things"], b_outside, false⟩
def b_Ratio___eq__ : Ss := (.cons (.ret (.and (.isin (.var 1) true [(.own c_Ratio)]) (.and (.cmp .eq (.fld (.var 0) "n") (.fld (.var 1) "n")) (.cmp .eq (.fld (.var 0) "d") (.fld (.var 1) "d"))))) .nil)
def f_Ratio___eq__ : FnT := ⟨⟨("Ratio", some "__eq__"), "__eq__", "Ratio.__eq__", defArgs (mem 16 5), defBody (mem 16 5), defScope (mem 16 5), [], []⟩, ["self", "other"], ["self", "other"], b_Ratio___eq__, false⟩
def b_Ratio___init__ : Ss := (.cons (.ite (.or (.not (.call k_is_integer (.cons (.var 1) .nil))) (.not (.call k_is_integer (.cons (.var 2) .nil)))) (.cons (.raise c_Malformed "a number") .nil) .nil) (.cons (.ite (.cmp .eq (.var 2) (.int 0)) (.cons (.raise c_ZeroDivisor "zero") .nil) .nil) (.cons (.ite (.cmp .lt (.var 2) (.int 0)) (.cons (.par [1, 2] (.cons (.neg (.var 1)) (.cons (.neg (.var 2)) .nil))) .nil) .nil) (.cons (.asg (.nm 3) (.call k_common (.cons (.var 1) (.cons (.var 2) .nil)))) (.cons (.setf 0 "n" (.bin .fdiv (.var 1) (.var 3))) (.cons (.setf 0 "d" (.bin .fdiv (.var 2) (.var 3))) .nil))))))
def f_Ratio___init__ : FnT := ⟨⟨("Ratio", some "__init__"), "__init__", "Ratio.__init__", defArgs (mem 16 0), defBody (mem 16 0), defScope (mem 16 0), [.int 1], []⟩, ["self", "n", "d", "g"], ["self", "n", "d"], b_Ratio___init__, false⟩
def b_common : Ss := (.cons (.par [0, 1] (.cons (.blt .abs (.cons (.var 0) .nil)) (.cons (.blt .abs (.cons (.var 1) .nil)) .nil))) (.cons (.while_ (.cmp .ne (.var 1) (.int 0)) (.cons (.par [0, 1] (.cons (.var 1) (.cons (.bin .mod (.var 0) (.var 1)) .nil))) .nil) []) (.cons (.ret (.var 0)) .nil)))
def f_common : FnT := ⟨⟨("common", none), "common", "common", defArgs (top 8), defBody (top 8), defScope (top 8), [], []⟩, ["a", "b"], ["a", "b"], b_common, false⟩
def b__law_same : Ss := (.cons (.ite (.isin (.var 1) true [.bool]) (.cons (.ret (.and (.isin (.var 0) true [.bool]) (.cmp .eq (.var 0) (.var 1)))) .nil) .nil) (.cons (.ite (.isin (.var 1) true [.tuple]) (.cons (.ret (.and (.isin (.var 0) true [.tuple]) (.and (.cmp .eq (.blt .len (.cons (.var 0) .nil)) (.blt .len (.cons (.var 1) .nil))) (.blt .all (.cons (.lc (.call k__law_same (.cons (.idx (.var 0) (.var 2)) (.cons (.idx (.var 1) (.var 2)) .nil))) (.nm 2) (.rng1 (.blt .len (.cons (.var 1) .nil))) .no [2]) .nil))))) .nil) .nil) (.cons (.ite (.isin (.var 1) true [.list]) (.cons (.ret (.and (.isin (.var 0) true [.list]) (.call k__law_same (.cons (.blt .tuple (.cons (.var 0) .nil)) (.cons (.blt .tuple (.cons (.var 1) .nil)) .nil))))) .nil) .nil) (.cons (.ite (.isin (.var 1) true [.str]) (.cons (.ret (.and (.isin (.var 0) true [.str]) (.cmp .eq (.var 0) (.var 1)))) .nil) .nil) (.cons (.ite (.isN false (.var 1)) (.cons (.ret (.isN false (.var 0))) .nil) .nil) (.cons (.ret (.and (.call k__law_is_whole (.cons (.var 0) .nil)) (.cmp .eq (.var 0) (.var 1)))) .nil))))))
def f__law_same : FnT := ⟨⟨("_law_same", none), "_law_same", "_law_same", defArgs (top 43), defBody (top 43), defScope (top 43), [], []⟩, ["one", "two", "k"], ["one", "two"], b__law_same, false⟩
def b__law_is_whole : Ss := (.cons (.ret (.and (.isin (.var 0) true [.int]) (.not (.isin (.var 0) true [.bool])))) .nil)
def f__law_is_whole : FnT := ⟨⟨("_law_is_whole", none), "_law_is_whole", "_law_is_whole", defArgs (top 42), defBody (top 42), defScope (top 42), [], []⟩, ["value"], ["value"], b__law_is_whole, false⟩
def b_edge : Ss := (.cons (.asg (.nm 3) (.call k_inside (.cons (.var 0) (.cons (.var 1) (.cons (.var 2) .nil))))) (.cons (.ret (.blt .tuple (.cons (.lc (.var 4) (.nm 4) (.ex (.call k_outside (.cons (.var 0) (.cons (.var 1) (.cons (.var 2) .nil))))) (.cmp .nin (.var 4) (.var 3)) [4]) .nil))) .nil))
def f_edge : FnT := ⟨⟨("edge", none), "edge", "edge", defArgs (top 27), defBody (top 27), defScope (top 27), [], []⟩, ["table", "marks", "things", "low", "g"], ["table", "marks", "things"], b_edge, false⟩
def b_is_sharp : Ss := (.cons (.ret (.cmp .eq (.call k_inside (.cons (.var 0) (.cons (.var 1) (.cons (.var 2) .nil)))) (.var 2))) .nil)
def f_is_sharp : FnT := ⟨⟨("is_sharp", none), "is_sharp", "is_sharp", defArgs (top 28), defBody (top 28), defScope (top 28), [], []⟩, ["table", "marks", "things"], ["table", "marks", "things"], b_is_sharp, false⟩
def b_told_things : Ss := (.cons (.expr (.call k_check_table (.cons (.var 0) .nil))) (.cons (.expr (.call k_check_set (.cons (.var 2) (.cons (.fld (.var 0) "marks") .nil)))) (.cons (.asgb 3 (.lst .nil)) (.cons (.for_ (.nm 4) (.ex (.call k_look_classes (.cons (.var 0) (.cons (.var 2) .nil)))) (.cons (.ext 3 (.blt .list (.cons (.call k_inside (.cons (.var 0) (.cons (.var 1) (.cons (.var 4) .nil)))) .nil))) .nil) [4]) (.cons (.ret (.blt .tuple (.cons (.blt .sorted (.cons (.var 3) .nil)) .nil))) .nil)))))
def f_told_things : FnT := ⟨⟨("told_things", none), "told_things", "told_things", defArgs (top 32), defBody (top 32), defScope (top 32), [], []⟩, ["table", "marks", "goal", "found", "own"], ["table", "marks", "goal"], b_told_things, false⟩
def b_is_finer_look : Ss := (.cons (.asg (.nm 3) (.call k_look_classes (.cons (.var 0) (.cons (.var 2) .nil)))) (.cons (.ret (.blt .all (.cons (.lc (.blt .any (.cons (.lc (.call k_within (.cons (.var 4) (.cons (.var 5) .nil))) (.nm 5) (.ex (.var 3)) .no [5]) .nil)) (.nm 4) (.ex (.call k_look_classes (.cons (.var 0) (.cons (.var 1) .nil)))) .no [4]) .nil))) .nil))
def f_is_finer_look : FnT := ⟨⟨("is_finer_look", none), "is_finer_look", "is_finer_look", defArgs (top 38), defBody (top 38), defScope (top 38), [], []⟩, ["table", "one", "two", "high", "own", "wide"], ["table", "one", "two"], b_is_finer_look, false⟩
def b_sharp_sets : Ss := (.cons (.asg (.nm 2) (.call k_look_classes (.cons (.var 0) (.cons (.var 1) .nil)))) (.cons (.asg (.nm 3) (.lst (.cons (.tup .nil) .nil))) (.cons (.for_ (.nm 4) (.ex (.var 2)) (.cons (.asg (.nm 3) (.bin .add (.var 3) (.lc (.blt .tuple (.cons (.blt .sorted (.cons (.bin .add (.var 5) (.var 4)) .nil)) .nil)) (.nm 5) (.ex (.var 3)) .no [5]))) .nil) [4]) (.cons (.ret (.sortk (.var 3) k_size_key)) .nil))))
def f_sharp_sets : FnT := ⟨⟨("sharp_sets", none), "sharp_sets", "sharp_sets", defArgs (top 30), defBody (top 30), defScope (top 30), [], []⟩, ["table", "marks", "classes", "sets", "own", "low"], ["table", "marks"], b_sharp_sets, false⟩
def b_size_key : Ss := (.cons (.ret (.tup (.cons (.blt .len (.cons (.var 0) .nil)) (.cons (.var 0) .nil)))) .nil)
def f_size_key : FnT := ⟨⟨("size_key", none), "size_key", "size_key", defArgs (top 31), defBody (top 31), defScope (top 31), [], []⟩, ["own"], ["own"], b_size_key, false⟩
def b__law_told : Ss := (.cons (.told (.cons (.ret (.tup (.cons (.str "told") (.cons (.ite (.cmp .eq (.blt .len (.cons (.var 1) .nil)) (.int 1)) (.callv 0 (.cons (.idx (.var 1) (.int 0)) .nil)) (.ite (.cmp .eq (.blt .len (.cons (.var 1) .nil)) (.int 2)) (.callv 0 (.cons (.idx (.var 1) (.int 0)) (.cons (.idx (.var 1) (.int 1)) .nil))) (.callv 0 (.cons (.idx (.var 1) (.int 0)) (.cons (.idx (.var 1) (.int 1)) (.cons (.idx (.var 1) (.int 2)) .nil)))))) .nil)))) .nil) c_Malformed "malformed" c_Refused 2 "reason" "refused") .nil)
def f__law_told : FnT := ⟨⟨("_law_told", none), "_law_told", "_law_told", defArgs (top 44), defBody (top 44), defScope (top 44), [], []⟩, ["act", "given", "refused"], ["act", "given"], b__law_told, false⟩
def b_difference_rows : Ss := (.cons (.expr (.call k_check_table (.cons (.var 0) .nil))) (.cons (.asgd 1) (.cons (.for_ (.tp [2, 3]) (.enum (.fld (.var 0) "rows")) (.cons (.for_ (.nm 4) (.ex (.slc (.fld (.var 0) "rows") .no (.var 2))) (.cons (.putd 1 (.blt .tuple (.cons (.lc (.var 5) (.nm 5) (.rng1 (.fld (.var 0) "marks")) (.cmp .ne (.cmp .inn (.var 5) (.var 3)) (.cmp .inn (.var 5) (.var 4))) [5]) .nil)) (.bl true)) .nil) [4]) .nil) [2, 3, 4]) (.cons (.frzd 1) (.cons (.ret (.sortk (.lc (.var 6) (.nm 6) (.dk 1) (.cmp .gt (.blt .len (.cons (.var 6) .nil)) (.int 0)) [6]) k_size_key)) .nil)))))
def f_difference_rows : FnT := ⟨⟨("difference_rows", none), "difference_rows", "difference_rows", defArgs (top 34), defBody (top 34), defScope (top 34), [], []⟩, ["table", "found", "g", "one", "two", "m", "own"], ["table"], b_difference_rows, false⟩
def b__law_subsets : Ss := (.cons (.asg (.nm 1) (.lst (.cons (.tup .nil) .nil))) (.cons (.for_ (.nm 2) (.rng1 (.var 0)) (.cons (.asg (.nm 1) (.bin .add (.var 1) (.lc (.bin .add (.var 3) (.tup (.cons (.var 2) .nil))) (.nm 3) (.ex (.var 1)) .no [3]))) .nil) [2]) (.cons (.ret (.lc (.var 3) (.tp [4, 3]) (.ex (.blt .sorted (.cons (.lc (.tup (.cons (.blt .len (.cons (.var 3) .nil)) (.cons (.var 3) .nil))) (.nm 3) (.ex (.var 1)) .no [3]) .nil))) .no [4, 3])) .nil)))
def f__law_subsets : FnT := ⟨⟨("_law_subsets", none), "_law_subsets", "_law_subsets", defArgs (top 47), defBody (top 47), defScope (top 47), [], []⟩, ["n", "found", "x", "own", "size"], ["n"], b__law_subsets, false⟩
def b_enough_for : Ss := (.cons (.expr (.call k_check_table (.cons (.var 0) .nil))) (.cons (.expr (.call k_check_set (.cons (.var 1) (.cons (.fld (.var 0) "marks") .nil)))) (.cons (.asg (.nm 2) (.blt .tuple (.cons (.lc (.var 6) (.nm 6) (.rng1 (.fld (.var 0) "marks")) (.cmp .nin (.var 6) (.var 1)) [6]) .nil))) (.cons (.asg (.nm 3) (.call k_told_things (.cons (.var 0) (.cons (.var 2) (.cons (.var 1) .nil))))) (.cons (.asgb 4 (.lst .nil)) (.cons (.for_ (.nm 5) (.ex (.call k_subsets_of (.cons (.fld (.var 0) "marks") .nil))) (.cons (.ite (.and (.call k_within (.cons (.var 5) (.cons (.var 2) .nil))) (.cmp .eq (.call k_told_things (.cons (.var 0) (.cons (.var 5) (.cons (.var 1) .nil)))) (.var 3))) (.cons (.ite (.not (.blt .any (.cons (.lc (.call k_within (.cons (.var 7) (.cons (.var 5) .nil))) (.nm 7) (.ex (.var 4)) .no [7]) .nil))) (.cons (.app 4 (.var 5)) .nil) .nil) .nil) .nil) .nil) [5]) (.cons (.frz 4) (.cons (.ret (.var 4)) .nil))))))))
def f_enough_for : FnT := ⟨⟨("enough_for", none), "enough_for", "enough_for", defArgs (top 36), defBody (top 36), defScope (top 36), [], []⟩, ["table", "goal", "others", "due", "found", "own", "m", "low"], ["table", "goal"], b_enough_for, false⟩
def b_subsets_of : Ss := (.cons (.asg (.nm 1) (.lst (.cons (.tup .nil) .nil))) (.cons (.for_ (.nm 2) (.rng1 (.var 0)) (.cons (.asg (.nm 1) (.bin .add (.var 1) (.lc (.bin .add (.var 3) (.tup (.cons (.var 2) .nil))) (.nm 3) (.ex (.var 1)) .no [3]))) .nil) [2]) (.cons (.ret (.sortk (.var 1) k_set_key)) .nil)))
def f_subsets_of : FnT := ⟨⟨("subsets_of", none), "subsets_of", "subsets_of", defArgs (top 11), defBody (top 11), defScope (top 11), [], []⟩, ["n", "found", "x", "own"], ["n"], b_subsets_of, false⟩
def b_set_key : Ss := (.cons (.ret (.tup (.cons (.blt .len (.cons (.var 0) .nil)) (.cons (.var 0) .nil)))) .nil)
def f_set_key : FnT := ⟨⟨("set_key", none), "set_key", "set_key", defArgs (top 12), defBody (top 12), defScope (top 12), [], []⟩, ["own"], ["own"], b_set_key, false⟩
def b__law_within : Ss := (.cons (.ret (.blt .all (.cons (.lc (.cmp .inn (.var 2) (.var 1)) (.nm 2) (.ex (.var 0)) .no [2]) .nil))) .nil)
def f__law_within : FnT := ⟨⟨("_law_within", none), "_law_within", "_law_within", defArgs (top 50), defBody (top 50), defScope (top 50), [], []⟩, ["one", "two", "x"], ["one", "two"], b__law_within, false⟩
def b_sharpness : Ss := (.cons (.asg (.nm 3) (.call k_outside (.cons (.var 0) (.cons (.var 1) (.cons (.var 2) .nil))))) (.cons (.ret (.ite (.cmp .gt (.blt .len (.cons (.var 3) .nil)) (.int 0)) (.make c_Ratio (.cons (.blt .len (.cons (.call k_inside (.cons (.var 0) (.cons (.var 1) (.cons (.var 2) .nil)))) .nil)) (.cons (.blt .len (.cons (.var 3) .nil)) .nil))) (.makeD c_Ratio (.cons (.int 1) .nil) 1))) .nil))
def f_sharpness : FnT := ⟨⟨("sharpness", none), "sharpness", "sharpness", defArgs (top 29), defBody (top 29), defScope (top 29), [], []⟩, ["table", "marks", "things", "high"], ["table", "marks", "things"], b_sharpness, false⟩
def b_told_share : Ss := (.cons (.asg (.nm 3) (.call k_told_things (.cons (.var 0) (.cons (.var 1) (.cons (.var 2) .nil))))) (.cons (.ret (.ite (.cmp .gt (.fld (.var 0) "things") (.int 0)) (.make c_Ratio (.cons (.blt .len (.cons (.var 3) .nil)) (.cons (.fld (.var 0) "things") .nil))) (.makeD c_Ratio (.cons (.int 1) .nil) 1))) .nil))
def f_told_share : FnT := ⟨⟨("told_share", none), "told_share", "told_share", defArgs (top 33), defBody (top 33), defScope (top 33), [], []⟩, ["table", "marks", "goal", "own"], ["table", "marks", "goal"], b_told_share, false⟩
def b_enough_sets : Ss := (.cons (.asg (.nm 1) (.call k_difference_rows (.cons (.var 0) .nil))) (.cons (.asgb 2 (.lst .nil)) (.cons (.for_ (.nm 3) (.ex (.call k_subsets_of (.cons (.fld (.var 0) "marks") .nil))) (.cons (.ite (.and (.blt .all (.cons (.lc (.cmp .gt (.blt .len (.cons (.call k_met (.cons (.var 3) (.cons (.var 4) .nil))) .nil)) (.int 0)) (.nm 4) (.ex (.var 1)) .no [4]) .nil)) (.not (.blt .any (.cons (.lc (.call k_within (.cons (.var 5) (.cons (.var 3) .nil))) (.nm 5) (.ex (.var 2)) .no [5]) .nil)))) (.cons (.app 2 (.var 3)) .nil) .nil) .nil) [3]) (.cons (.frz 2) (.cons (.ret (.var 2)) .nil)))))
def f_enough_sets : FnT := ⟨⟨("enough_sets", none), "enough_sets", "enough_sets", defArgs (top 35), defBody (top 35), defScope (top 35), [], []⟩, ["table", "rows", "found", "own", "row", "low"], ["table"], b_enough_sets, false⟩
def b_core_of : Ss := (.cons (.ret (.blt .tuple (.cons (.blt .sorted (.cons (.lc (.idx (.var 1) (.int 0)) (.nm 1) (.ex (.call k_difference_rows (.cons (.var 0) .nil))) (.cmp .eq (.blt .len (.cons (.var 1) .nil)) (.int 1)) [1]) .nil)) .nil))) .nil)
def f_core_of : FnT := ⟨⟨("core_of", none), "core_of", "core_of", defArgs (top 37), defBody (top 37), defScope (top 37), [], []⟩, ["table", "own"], ["table"], b_core_of, false⟩
def b_law : Ss := (.cons (.asg (.tp [2, 3]) (.tup (.cons (.call k__law_take (.cons (.var 1) (.cons (.int 7) .nil))) (.cons (.call k__law_take (.cons (.var 1) (.cons (.int 5) .nil))) .nil)))) (.cons (.asg (.nm 4) (.call k__law_rows (.cons (.var 1) (.cons (.var 2) (.cons (.var 3) .nil))))) (.cons (.asg (.tp [5, 6, 7, 8]) (.tup (.cons (.make c_Table (.cons (.var 2) (.cons (.var 3) (.cons (.var 4) .nil)))) (.cons (.call k__law_set (.cons (.var 1) (.cons (.var 3) .nil))) (.cons (.call k__law_set (.cons (.var 1) (.cons (.var 2) .nil))) (.cons (.call k__law_set (.cons (.var 1) (.cons (.var 3) .nil))) .nil)))))) (.cons (.asg (.nm 9) (.call k__law_classes (.cons (.var 4) (.cons (.var 6) .nil)))) (.cons (.asg (.nm 10) (.call k__law_joined (.cons (.lc (.var 16) (.nm 16) (.ex (.var 9)) (.call k__law_within (.cons (.var 16) (.cons (.var 7) .nil))) [16]) .nil))) (.cons (.asg (.nm 11) (.call k__law_joined (.cons (.lc (.var 16) (.nm 16) (.ex (.var 9)) (.blt .any (.cons (.lc (.cmp .inn (.var 21) (.var 7)) (.nm 21) (.ex (.var 16)) .no [21]) .nil)) [16]) .nil))) (.cons (.asg (.nm 12) (.lst (.cons (.tup (.cons (.gfn k_look_classes) (.cons (.tup (.cons (.var 5) (.cons (.var 6) .nil))) (.cons (.blt .tuple (.cons (.var 9) .nil)) .nil)))) (.cons (.tup (.cons (.gfn k_inside) (.cons (.tup (.cons (.var 5) (.cons (.var 6) (.cons (.var 7) .nil)))) (.cons (.var 10) .nil)))) (.cons (.tup (.cons (.gfn k_outside) (.cons (.tup (.cons (.var 5) (.cons (.var 6) (.cons (.var 7) .nil)))) (.cons (.var 11) .nil)))) .nil))))) (.cons (.asg (.nm 12) (.bin .add (.var 12) (.lst (.cons (.tup (.cons (.gfn k_edge) (.cons (.tup (.cons (.var 5) (.cons (.var 6) (.cons (.var 7) .nil)))) (.cons (.blt .tuple (.cons (.lc (.var 21) (.nm 21) (.ex (.var 11)) (.cmp .nin (.var 21) (.var 10)) [21]) .nil)) .nil)))) (.cons (.tup (.cons (.gfn k_is_sharp) (.cons (.tup (.cons (.var 5) (.cons (.var 6) (.cons (.var 7) .nil)))) (.cons (.cmp .eq (.var 10) (.var 7)) .nil)))) .nil))))) (.cons (.asg (.nm 13) (.call k__law_joined (.cons (.lc (.call k__law_joined (.cons (.lc (.var 16) (.nm 16) (.ex (.var 9)) (.call k__law_within (.cons (.var 16) (.cons (.var 28) .nil))) [16]) .nil)) (.nm 28) (.ex (.call k__law_classes (.cons (.var 4) (.cons (.var 8) .nil)))) .no [28]) .nil))) (.cons (.asg (.nm 14) (.call k__law_set (.cons (.var 1) (.cons (.var 3) .nil)))) (.cons (.asg (.nm 12) (.bin .add (.var 12) (.lst (.cons (.tup (.cons (.gfn k_told_things) (.cons (.tup (.cons (.var 5) (.cons (.var 6) (.cons (.var 8) .nil)))) (.cons (.var 13) .nil)))) (.cons (.tup (.cons (.gfn k_is_finer_look) (.cons (.tup (.cons (.var 5) (.cons (.var 6) (.cons (.var 14) .nil)))) (.cons (.blt .all (.cons (.lc (.blt .any (.cons (.lc (.call k__law_within (.cons (.var 16) (.cons (.var 28) .nil))) (.nm 28) (.ex (.call k__law_classes (.cons (.var 4) (.cons (.var 14) .nil)))) .no [28]) .nil)) (.nm 16) (.ex (.var 9)) .no [16]) .nil)) .nil)))) .nil))))) (.cons (.asg (.nm 15) (.lst (.cons (.tup .nil) .nil))) (.cons (.for_ (.nm 16) (.ex (.var 9)) (.cons (.asg (.nm 15) (.bin .add (.var 15) (.lc (.blt .tuple (.cons (.blt .sorted (.cons (.bin .add (.var 29) (.var 16)) .nil)) .nil)) (.nm 29) (.ex (.var 15)) .no [29]))) .nil) [16]) (.cons (.asg (.nm 12) (.bin .add (.var 12) (.lst (.cons (.tup (.cons (.gfn k_sharp_sets) (.cons (.tup (.cons (.var 5) (.cons (.var 6) .nil))) (.cons (.lc (.var 16) (.tp [30, 16]) (.ex (.blt .sorted (.cons (.lc (.tup (.cons (.blt .len (.cons (.var 16) .nil)) (.cons (.var 16) .nil))) (.nm 16) (.ex (.var 15)) .no [16]) .nil))) .no [30, 16]) .nil)))) .nil)))) (.cons (.for_ (.tp [17, 18, 19]) (.ex (.var 12)) (.cons (.ite (.not (.call k__law_same (.cons (.call k__law_told (.cons (.var 17) (.cons (.var 18) .nil))) (.cons (.tup (.cons (.str "told") (.cons (.var 19) .nil))) .nil)))) (.cons (.ret (.bl false)) .nil) .nil) .nil) [17, 18, 19]) (.cons (.ite (.or (.not (.eqi false (.call k_sharpness (.cons (.var 5) (.cons (.var 6) (.cons (.var 7) .nil)))) (.ite (.cmp .gt (.blt .len (.cons (.var 11) .nil)) (.int 0)) (.make c_Ratio (.cons (.blt .len (.cons (.var 10) .nil)) (.cons (.blt .len (.cons (.var 11) .nil)) .nil))) (.makeD c_Ratio (.cons (.int 1) .nil) 1)))) (.not (.eqi false (.call k_told_share (.cons (.var 5) (.cons (.var 6) (.cons (.var 8) .nil)))) (.ite (.cmp .gt (.var 2) (.int 0)) (.make c_Ratio (.cons (.blt .len (.cons (.var 13) .nil)) (.cons (.var 2) .nil))) (.makeD c_Ratio (.cons (.int 1) .nil) 1))))) (.cons (.ret (.bl false)) .nil) .nil) (.cons (.asg (.nm 20) (.lst .nil)) (.cons (.for_ (.nm 21) (.rng1 (.var 2)) (.cons (.asg (.nm 20) (.bin .add (.var 20) (.lc (.blt .tuple (.cons (.lc (.var 29) (.nm 29) (.rng1 (.var 3)) (.cmp .ne (.cmp .inn (.var 29) (.idx (.var 4) (.var 21))) (.cmp .inn (.var 29) (.idx (.var 4) (.var 31)))) [29]) .nil)) (.nm 31) (.rng1 (.var 21)) .no [31]))) .nil) [21]) (.cons (.asgb 20 (.lc (.var 16) (.tp [30, 16]) (.ex (.blt .sorted (.cons (.lc (.tup (.cons (.blt .len (.cons (.var 16) .nil)) (.cons (.var 16) .nil))) (.nm 16) (.ex (.sset (.var 20))) .no [16]) .nil))) (.cmp .gt (.var 30) (.int 0)) [30, 16])) (.cons (.frz 20) (.cons (.ite (.not (.call k__law_same (.cons (.call k__law_told (.cons (.gfn k_difference_rows) (.cons (.tup (.cons (.var 5) .nil)) .nil))) (.cons (.tup (.cons (.str "told") (.cons (.var 20) .nil))) .nil)))) (.cons (.ret (.bl false)) .nil) .nil) (.cons (.asg (.nm 22) (.call k__law_classes (.cons (.var 4) (.cons (.tupS (.rng1 (.var 3))) .nil)))) (.cons (.asgb 23 (.lc (.var 16) (.nm 16) (.ex (.call k__law_subsets (.cons (.var 3) .nil))) (.cmp .eq (.call k__law_classes (.cons (.var 4) (.cons (.var 16) .nil))) (.var 22)) [16])) (.cons (.frz 23) (.cons (.asgb 24 (.lc (.var 16) (.nm 16) (.ex (.var 23)) (.not (.blt .any (.cons (.lc (.and (.cmp .ne (.var 29) (.var 16)) (.call k__law_within (.cons (.var 29) (.cons (.var 16) .nil)))) (.nm 29) (.ex (.var 23)) .no [29]) .nil))) [16])) (.cons (.frz 24) (.cons (.ite (.or (.not (.call k__law_same (.cons (.call k__law_told (.cons (.gfn k_enough_sets) (.cons (.tup (.cons (.var 5) .nil)) .nil))) (.cons (.tup (.cons (.str "told") (.cons (.var 24) .nil))) .nil)))) (.not (.call k__law_same (.cons (.call k_core_of (.cons (.var 5) .nil)) (.cons (.blt .tuple (.cons (.lc (.var 29) (.nm 29) (.rng1 (.var 3)) (.blt .all (.cons (.lc (.cmp .inn (.var 29) (.var 16)) (.nm 16) (.ex (.var 24)) .no [16]) .nil)) [29]) .nil)) .nil))))) (.cons (.ret (.bl false)) .nil) .nil) (.cons (.ite (.blt .any (.cons (.lc (.cmp .ne (.blt .all (.cons (.lc (.blt .any (.cons (.lc (.cmp .inn (.var 29) (.var 16)) (.nm 29) (.ex (.var 32)) .no [29]) .nil)) (.nm 32) (.ex (.var 20)) .no [32]) .nil)) (.cmp .inn (.var 16) (.var 23))) (.nm 16) (.ex (.call k__law_subsets (.cons (.var 3) .nil))) .no [16]) .nil)) (.cons (.ret (.bl false)) .nil) .nil) (.cons (.asg (.nm 25) (.blt .tuple (.cons (.lc (.var 29) (.nm 29) (.rng1 (.var 3)) (.cmp .nin (.var 29) (.var 8)) [29]) .nil))) (.cons (.asgb 26 (.lc (.var 16) (.nm 16) (.ex (.call k__law_subsets (.cons (.var 3) .nil))) (.and (.call k__law_within (.cons (.var 16) (.cons (.var 25) .nil))) (.cmp .eq (.call k_told_things (.cons (.var 5) (.cons (.var 16) (.cons (.var 8) .nil)))) (.call k_told_things (.cons (.var 5) (.cons (.var 25) (.cons (.var 8) .nil)))))) [16])) (.cons (.frz 26) (.cons (.ite (.not (.call k__law_same (.cons (.call k__law_told (.cons (.gfn k_enough_for) (.cons (.tup (.cons (.var 5) (.cons (.var 8) .nil))) .nil))) (.cons (.tup (.cons (.str "told") (.cons (.lc (.var 16) (.nm 16) (.ex (.var 26)) (.not (.blt .any (.cons (.lc (.and (.cmp .ne (.var 29) (.var 16)) (.call k__law_within (.cons (.var 29) (.cons (.var 16) .nil)))) (.nm 29) (.ex (.var 26)) .no [29]) .nil))) [16]) .nil))) .nil)))) (.cons (.ret (.bl false)) .nil) .nil) (.cons (.for_ (.nm 27) (.ex (.lst (.cons (.tup (.cons (.int 9) .nil)) (.cons (.tup (.cons (.int 0) (.cons (.int 0) .nil))) (.cons (.lst (.cons (.int 0) .nil)) (.cons .non (.cons (.tup (.cons (.bl true) .nil)) (.cons (.tup (.cons (.str "0") .nil)) .nil)))))))) (.cons (.ite (.cmp .ne (.lc (.idx (.call k__law_told (.cons (.var 17) (.cons (.tup (.cons (.var 5) (.cons (.var 27) .nil))) .nil))) (.int 0)) (.nm 17) (.ex (.tup (.cons (.gfn k_look_classes) (.cons (.gfn k_enough_for) .nil)))) .no [17]) (.bin .mul (.lst (.cons (.str "malformed") .nil)) (.int 2))) (.cons (.ret (.bl false)) .nil) .nil) (.cons (.ite (.cmp .ne (.lc (.idx (.call k__law_told (.cons (.var 17) (.cons (.tup (.cons (.var 5) (.cons (.var 6) (.cons (.var 27) .nil)))) .nil))) (.int 0)) (.nm 17) (.ex (.tup (.cons (.gfn k_inside) (.cons (.gfn k_outside) (.cons (.gfn k_edge) (.cons (.gfn k_is_sharp) (.cons (.gfn k_sharpness) (.cons (.gfn k_told_things) .nil)))))))) .no [17]) (.bin .mul (.lst (.cons (.str "malformed") .nil)) (.int 6))) (.cons (.ret (.bl false)) .nil) .nil) .nil)) [27]) (.cons (.ret (.cmp .eq (.lc (.idx (.call k__law_told (.cons (.var 17) (.cons (.tup (.cons .non .nil)) .nil))) (.int 0)) (.nm 17) (.ex (.tup (.cons (.gfn k_difference_rows) (.cons (.gfn k_enough_sets) (.cons (.gfn k_core_of) .nil))))) .no [17]) (.bin .mul (.lst (.cons (.str "malformed") .nil)) (.int 3)))) .nil))))))))))))))))))))))))))))))))))
def N_law : List Str := (["script", "state", "n", "m", "rows", "table", "marks", "things", "goal", "classes", "low", "high", "asked", "told", "other", "sets", "own", "act", "given", "due"] : List Str) ++ (["differences", "g", "whole", "full", "least", "rest", "good", "bad", "wide", "x", "size", "h", "row"] : List Str)
def fnsL : List FnT := [f__law_state, f__law_rows, f__law_take, f__law_classes, f__law_joined, f__law_set, f_Table___init__, f_is_integer, f_is_set, f_look_classes, f_check_table, f_check_set, f_met, f_inside, f_within, f_outside, f_Ratio___eq__, f_Ratio___init__, f_common, f__law_same, f__law_is_whole, f_edge, f_is_sharp, f_told_things, f_is_finer_look, f_sharp_sets, f_size_key, f__law_told, f_difference_rows, f__law_subsets, f_enough_for, f_subsets_of, f_set_key, f__law_within, f_sharpness, f_told_share, f_enough_sets, f_core_of]
def prog : Prog := ⟨fnsL, f__law_state, [⟨"Ratio", ["n", "d"], 17, none, (some k_Ratio___eq__)⟩, ⟨"Table", ["things", "marks", "rows"], 6, none, none⟩, ⟨"ZeroDivisor", [], 0, none, none⟩, ⟨"Malformed", [], 0, none, none⟩, ⟨"Refused", [], 0, (some "reason"), none⟩], ⟨"Ratio", ["n", "d"], 17, none, (some k_Ratio___eq__)⟩, 2, [("MOST", 8)], [⟨c_Refused, ⟨("Refused", some "__init__"), "__init__", "Refused.__init__", defArgs (mem 5 0), defBody (mem 5 0), defScope (mem 5 0), [], []⟩, ["self", "reason"], ["self", "reason"], "reason"⟩], ⟨("law", none), "law", "law", defArgs (top 51), defBody (top 51), defScope (top 51), [], []⟩⟩
end Pu

/-! ======== Pwhole ======== -/
namespace Pu
open PySem
local macro_rules | `(tactic| and_intros) => `(tactic| repeat' first
  | exact nt0 | exact nt1 | exact nt2 | exact Nat.zero_lt_two | exact Nat.one_lt_two
  | exact e_var ⟨rfl⟩ Nat.zero_lt_two | exact e_var ⟨rfl⟩ Nat.one_lt_two | exact e_varb ⟨rfl⟩
  | apply e_int | apply e_bl | apply e_non | apply e_str | apply e_gfn | apply e_gint
  | exact es_nil | apply es_cons | apply e_tup | apply e_lst | apply e_bin | apply e_neg | apply e_cmp | apply e_chain | apply e_isN
  | apply e_and | apply e_or | apply e_not | apply e_ite | apply e_call | apply e_blt | apply e_isin | apply e_fld | apply e_idx
  | apply e_lcid | apply e_lcm | apply e_lcf | apply e_sortk
  | exact cl_inst | exact fd_inst | exact ix0 | exact ix1 | exact ix2
  | apply ew | apply cw
  | apply e_tupS | apply e_lstS | apply sr_rng1 | apply sr_rng2 | apply sr_enum | apply sr_zipt | apply sr_zipl | exact sr_dk ⟨rfl⟩ | apply sr_ex
  | exact tb_nm | exact tb_pr
  | exact can_int | exact can_bl | exact can_tp | exact can_ls | exact can_id | apply can_pr | apply can_tp1
  | exact e_no | exact lk rfl
  | exact b_addi | exact b_subi | apply b_addt | apply b_addl | apply b_addt1
  | exact c_lti | exact c_lei | exact c_gti | exact c_gei | exact c_eqi | exact c_nei | exact c_eqb | exact c_neb
  | exact c_eqt (by decide) | exact c_net (by decide) | exact c_eql (by decide) | exact c_nel (by decide)
  | exact c_int rfl (by decide) | exact c_inl rfl (by decide) | exact c_nint rfl (by decide) | exact c_ninl rfl (by decide)
  | exact bl_all | exact bl_any | exact bl_sum | exact bl_lent | exact bl_lenl | exact bl_lent' | exact bl_lenl' | exact bl_tupl | exact bl_tupt | exact bl_lstl | exact bl_lstt | exact bl_int
  | exact bl_sorted sb_int (by decide) | exact bl_sorted sb_pr (by decide) | exact bl_sorted sb_ls (by decide)
  | exact sb_int | exact sb_pr | exact sb_ls
  | apply s_ret | apply s_asg | apply s_asgb | apply s_asgt | apply s_par | exact s_nil | (refine s_frz ⟨rfl⟩ ?_) | (refine s_frzd ⟨rfl⟩ ?_) | apply s_expr
  | assumption
  | rfl
  | omega
  | intro _)
/-! whole.py -/
instance cl_within {n : Nat} {a b : List Int} {S : Sx} : Cl prog.tab (n + 1) k_within [iT a, iT b] S (.bl (a.all fun x => decide (x ∈ b))) := by
  refine cl_mk (b := b_within) (ρ := [.v (iT a), .v (iT b), .un]) rfl ?_
  and_intros
instance cl_met {n : Nat} {a b : List Int} {S : Sx} : Cl prog.tab (n + 1) k_met [iT a, iT b] S (iT (a.filter fun x => decide (x ∈ b))) := by
  refine cl_mk (b := b_met) (ρ := [.v (iT a), .v (iT b), .un]) rfl ?_
  and_intros
instance cl_is_integer {n : Nat} {x : Int} {S : Sx} : Cl prog.tab (n + 1) k_is_integer [.int x] S (.bl true) := ⟨rfl⟩
instance cl_set_key {n : Nat} {l : List Int} {S : Sx} : Cl prog.tab (n + 1) k_set_key [iT l] S (.tup [.int l.length, iT l]) := by
  refine cl_mk (b := b_set_key) (ρ := [.v (iT l)]) rfl ?_
  and_intros
instance cl_is_set {n : Nat} {a : List Int} {m : Int} {S : Sx} : Cl prog.tab (n + 2) k_is_set [iT a, .int m] S (.bl (setB a m)) := by
  refine cl_mk (b := b_is_set) (ρ := [.v (iT a), .v (.int m), .un, .un, .un]) rfl ?_
  refine s_ite (p := !(a.all (fun x => true && (decide (0 ≤ x) && decide (x < m))))) ?_ (fun h => ?_) (fun h => ?_)
  · apply ev_to
    · and_intros
    · rfl
  · refine s_ret' (d := .bl false) (by and_intros) ?_
    rw [Bool.not_eq_true'] at h
    unfold setB; rw [h]; rfl
  · apply s_ret'
    · refine e_blt (es_cons (e_lcm (sr_zipt (e_var ⟨rfl⟩ (by decide)) (e_tail (e_var ⟨rfl⟩ (by decide)) (by decide))) tb_pr (by and_intros) can_bl) es_nil) bl_all nt0
    · rw [Bool.not_eq_false'] at h
      unfold setB; rw [h]; rfl
theorem cg_check_set {n : Nat} {a : List Int} {m : Int} {S : Sx} (h : setB a m = true) : Cg prog.tab (n + 3) k_check_set [iT a, .int m] S .non := by
  refine ⟨(cl_mkN (b := b_check_set) (ρ := [.v (iT a), .v (.int m)]) (ρ' := [.v (iT a), .v (.int m)]) rfl (s_iteF ?_ s_nil)).eq⟩
  have : Ev (gAt prog.tab (n + 2)) (.not (.call k_is_set (.cons (.var 0) (.cons (.var 1) .nil)))) 0 [.v (iT a), .v (.int m)] S (.bl (!setB a m)) := by and_intros
  rw [h] at this
  exact this

theorem cl_subsets {n : Nat} {m : Int} {S : Sx} (h0 : 0 ≤ m) (hm : m ≤ 8) : Cg prog.tab (n + 2) k_subsets_of [.int m] S (.lst ((subs m.toNat).map iT)) := by
  suffices h : Cl prog.tab (n + 2) k_subsets_of [.int m] S (.lst ((subs m.toNat).map iT)) from ⟨h.eq⟩
  refine cl_mk (b := b_subsets_of) (ρ := [.v (.int m), .un, .un, .un]) rfl ?_
  refine s_asg (d := .lst ([[]].map iT)) (by and_intros) ?_
  refine s_for (i := D.int) (l := rg 0 m.toNat) (ρ1 := [.v (.int m), .v (.lst (((rg 0 m.toNat).foldl (fun (L : List (List Int)) x => L ++ L.map (· ++ [x])) [[]]).map iT)), .un, .un]) (fun (L : List (List Int)) (z : Sl) => [.v (.int m), .v (.lst (L.map iT)), z, .un]) (fun L x => L ++ L.map (· ++ [x])) [[]] .un ?_ rfl ?_ (fun z => rfl) ?_
  · exact sr_rng1 (by and_intros) ⟨by omega, by omega⟩
  · intro pre a post e z
    obtain ⟨e1, e2, e3⟩ := rg_split e
    rw [e1, subs_fold]
    refine ⟨.v (.int a), tu_nm ?_⟩
    have h1 := subsL_len pre.length
    have h2 := subsL_short pre.length
    have h3 : 2 ^ pre.length ≤ 2 ^ 8 := Nat.pow_le_pow_right (by decide) (by omega)
    refine s_asg (d := .lst ((subsL pre.length ++ (subsL pre.length).map (· ++ [a])).map iT)) ?_ s_nil
    refine e_bin (x := .lst ((subsL pre.length).map iT)) (y := .lst (((subsL pre.length).map (· ++ [a])).map iT)) (by and_intros) ?_ (b_addl (by rw [List.length_map]; omega)) nt0
    refine e_lcm (i := iT) (l := subsL pre.length) (d := fun l => iT (l ++ [a])) (by and_intros) tb_nm (fun l hl => ?_) can_tp
    have := h2 l hl
    apply ew
    · apply e_bin
      · and_intros
      · and_intros
      · exact b_addt1 rfl (by omega)
      · exact nt0
    · rfl
  · rw [subs_fold]
    refine s_ret (e_sortk (κ := szk) (d := fun l => .tup [.int l.length, iT l]) (j := pr D.int iT) (i := iT) (l := subsL m.toNat) ?_ ?_ ?_ rfl sb_pr (by decide))
    · and_intros
    · and_intros
    · and_intros
end Pu

/-! ======== Ptable ======== -/
namespace Pu
open PySem
local macro_rules | `(tactic| and_intros) => `(tactic| repeat' first
  | exact nt0 | exact nt1 | exact nt2 | exact Nat.zero_lt_two | exact Nat.one_lt_two
  | exact e_var ⟨rfl⟩ Nat.zero_lt_two | exact e_var ⟨rfl⟩ Nat.one_lt_two | exact e_varb ⟨rfl⟩
  | apply e_int | apply e_bl | apply e_non | apply e_str | apply e_gfn | apply e_gint
  | exact es_nil | apply es_cons | apply e_tup | apply e_lst | apply e_bin | apply e_neg | apply e_cmp | apply e_chain | apply e_isN
  | apply e_and | apply e_or | apply e_not | apply e_ite | apply e_call | apply e_blt | apply e_isin | apply e_fld | apply e_idx
  | apply e_lcid | apply e_lcm | apply e_lcf | apply e_sortk
  | exact cl_inst | exact fd_inst | exact ix0 | exact ix1 | exact ix2
  | apply ew | apply cw
  | apply e_tupS | apply e_lstS | apply sr_rng1 | apply sr_rng2 | apply sr_enum | apply sr_zipt | apply sr_zipl | exact sr_dk ⟨rfl⟩ | apply sr_ex
  | exact tb_nm | exact tb_pr
  | exact can_int | exact can_bl | exact can_tp | exact can_ls | exact can_id | apply can_pr | apply can_tp1
  | exact e_no | exact lk rfl
  | exact b_addi | exact b_subi | apply b_addt | apply b_addl | apply b_addt1
  | exact c_lti | exact c_lei | exact c_gti | exact c_gei | exact c_eqi | exact c_nei | exact c_eqb | exact c_neb
  | exact c_eqt (by decide) | exact c_net (by decide) | exact c_eql (by decide) | exact c_nel (by decide)
  | exact c_int rfl (by decide) | exact c_inl rfl (by decide) | exact c_nint rfl (by decide) | exact c_ninl rfl (by decide)
  | exact bl_all | exact bl_any | exact bl_sum | exact bl_lent | exact bl_lenl | exact bl_lent' | exact bl_lenl' | exact bl_tupl | exact bl_tupt | exact bl_lstl | exact bl_lstt | exact bl_int
  | exact bl_sorted sb_int (by decide) | exact bl_sorted sb_pr (by decide) | exact bl_sorted sb_ls (by decide)
  | exact sb_int | exact sb_pr | exact sb_ls
  | apply s_ret | apply s_asg | apply s_asgb | apply s_asgt | apply s_par | exact s_nil | (refine s_frz ⟨rfl⟩ ?_) | (refine s_frzd ⟨rfl⟩ ?_) | apply s_expr
  | assumption
  | rfl
  | omega
  | intro _)
/-! tables.py -/
abbrev tD (n m : Int) (rows : List (List Int)) : D := .ins c_Table [.int n, .int m, .tup (rows.map iT)]
instance {k : Nat} {n m : Int} {rows : List (List Int)} : Fd (gAt prog.tab k) (tD n m rows) "things" (.int n) := ⟨rfl⟩
instance {k : Nat} {n m : Int} {rows : List (List Int)} : Fd (gAt prog.tab k) (tD n m rows) "marks" (.int m) := ⟨rfl⟩
instance {k : Nat} {n m : Int} {rows : List (List Int)} : Fd (gAt prog.tab k) (tD n m rows) "rows" (.tup (rows.map iT)) := ⟨rfl⟩
instance cl_check_table {n : Nat} {ds : List D} {S : Sx} : Cl prog.tab (n + 1) k_check_table [.ins c_Table ds] S .non := ⟨rfl⟩
theorem startO {fs : List Str} : True := trivial
theorem mk_table {n : Nat} {tn tm : Int} {rows : List (List Int)} {S : Sx} (h1 : 0 ≤ tn ∧ tn ≤ 8) (h2 : 0 ≤ tm ∧ tm ≤ 8) (hl : (rows.length : Int) = tn) (hr : ∀ r ∈ rows, setB r tm = true) : Mk prog.tab (n + 3) c_Table [.int tn, .int tm, .lst (rows.map iT)] S (tD tn tm rows) := by
  have key : ∀ ρ, Sv (gAt prog.tab (n + 2)) b_Table___init__ [.o c_Table [], .v (.int tn), .v (.int tm), .v (.lst (rows.map iT)), .un, .un] S (.next ρ S) → run prog.tab (n + 3) true c_Table [.int tn, .int tm, .lst (rows.map iT)] S = endIni c_Table ["things", "marks", "rows"] (.next ρ S) := fun ρ h => by
    rw [← h.eq]; rfl
  refine ⟨(key [.o c_Table [("things", .int tn), ("marks", .int tm), ("rows", .tup (rows.map iT))], .v (.int tn), .v (.int tm), .v (.lst (rows.map iT)), .un, .un] ?_).trans rfl⟩
  refine s_for (i := D.int) (l := [tn, tm]) (ρ1 := [.o c_Table [], .v (.int tn), .v (.int tm), .v (.lst (rows.map iT)), .un, .un]) (fun (_ : Unit) (z : Sl) => [.o c_Table [], .v (.int tn), .v (.int tm), .v (.lst (rows.map iT)), z, .un]) (fun u _ => u) () .un (sr_ext (by and_intros)) rfl ?_ (fun z => rfl) ?_
  · intro pre a post e z
    have ha : a ∈ [tn, tm] := e ▸ List.mem_append_right _ List.mem_cons_self
    have hb : 0 ≤ a ∧ a ≤ 8 := by
      rcases List.mem_cons.mp ha with rfl | ha
      · exact h1
      · rw [List.mem_singleton.mp ha]; exact h2
    refine ⟨.v (.int a), tu_nm ?_⟩
    refine s_iteF (ev_to (d := .bl (!true || !(decide (0 ≤ a) && decide (a ≤ 8)))) ?_ ?_) s_nil
    · refine e_or (e_not (by and_intros) (by decide)) (fun _ => ew (e_not (e_chain (z := .int 8) (by and_intros) (by and_intros) c_lei ?_ c_lei (by decide)) (by decide)) rfl) (by decide)
      exact e_gint (by decide)
    · rw [decide_eq_true hb.1, decide_eq_true hb.2]; rfl
  · refine s_iteF (ev_to (d := .bl (!true || (!decide ((rows.length : Int) = tn) || !rows.all fun r => setB r tm))) ?_ ?_) ?_
    · refine e_or (e_not (by and_intros) (by decide)) (fun _ => ew (e_or (by and_intros) (fun _ => ew (by and_intros) rfl) (by decide)) rfl) (by decide)
    · rw [decide_eq_true hl, List.all_eq_true.mpr hr]; rfl
    · refine s_setf (by and_intros) ⟨rfl⟩ (by rfl) ?_
      refine s_setf (by and_intros) ⟨rfl⟩ (by rfl) ?_
      refine s_setf (by and_intros) ⟨rfl⟩ (by rfl) ?_
      exact s_nil
end Pu

/-! ======== Plaw ======== -/
namespace Pu
open PySem
local macro_rules | `(tactic| and_intros) => `(tactic| repeat' first
  | exact nt0 | exact nt1 | exact nt2 | exact Nat.zero_lt_two | exact Nat.one_lt_two
  | exact e_var ⟨rfl⟩ Nat.zero_lt_two | exact e_var ⟨rfl⟩ Nat.one_lt_two | exact e_varb ⟨rfl⟩
  | apply e_int | apply e_bl | apply e_non | apply e_str | apply e_gfn | apply e_gint
  | exact es_nil | apply es_cons | apply e_tup | apply e_lst | apply e_bin | apply e_neg | apply e_cmp | apply e_chain | apply e_isN
  | apply e_and | apply e_or | apply e_not | apply e_ite | apply e_call | apply e_blt | apply e_isin | apply e_fld | apply e_idx
  | apply e_lcid | apply e_lcm | apply e_lcf | apply e_sortk
  | exact cl_inst | exact fd_inst | exact ix0 | exact ix1 | exact ix2
  | apply ew | apply cw
  | apply e_tupS | apply e_lstS | apply sr_rng1 | apply sr_rng2 | apply sr_enum | apply sr_zipt | apply sr_zipl | exact sr_dk ⟨rfl⟩ | apply sr_ex
  | exact tb_nm | exact tb_pr
  | exact can_int | exact can_bl | exact can_tp | exact can_ls | exact can_id | apply can_pr | apply can_tp1
  | exact e_no | exact lk rfl
  | exact b_addi | exact b_subi | apply b_addt | apply b_addl | apply b_addt1
  | exact c_lti | exact c_lei | exact c_gti | exact c_gei | exact c_eqi | exact c_nei | exact c_eqb | exact c_neb
  | exact c_eqt (by decide) | exact c_net (by decide) | exact c_eql (by decide) | exact c_nel (by decide)
  | exact c_int rfl (by decide) | exact c_inl rfl (by decide) | exact c_nint rfl (by decide) | exact c_ninl rfl (by decide)
  | exact bl_all | exact bl_any | exact bl_sum | exact bl_lent | exact bl_lenl | exact bl_lent' | exact bl_lenl' | exact bl_tupl | exact bl_tupt | exact bl_lstl | exact bl_lstt | exact bl_int
  | exact bl_sorted sb_int (by decide) | exact bl_sorted sb_pr (by decide) | exact bl_sorted sb_ls (by decide)
  | exact sb_int | exact sb_pr | exact sb_ls
  | apply s_ret | apply s_asg | apply s_asgb | apply s_asgt | apply s_par | exact s_nil | (refine s_frz ⟨rfl⟩ ?_) | (refine s_frzd ⟨rfl⟩ ?_) | apply s_expr
  | assumption
  | rfl
  | omega
  | intro _)
/-! what every law has -/
instance cl_whole {n : Nat} {x : Int} {S : Sx} : Cl prog.tab (n + 1) k__law_is_whole [.int x] S (.bl true) := ⟨rfl⟩
theorem take_ok {n : Nat} {a b m : Int} (h0 : 0 < m) (h1 : m < 1073741824) : ∃ v a' b', (0 ≤ v ∧ v < m) ∧ run prog.tab (n + 1) false k__law_take [.st, .int m] (some [.int a, .int b]) = .ok (.int v) (some [.int a', .int b']) := by
  have key : ∀ v S', Sv (gAt prog.tab n) b__law_take [.v .st, .v (.int m), .un] (some [.int a, .int b]) (.ret false (.int v) S') → run prog.tab (n + 1) false k__law_take [.st, .int m] (some [.int a, .int b]) = .ok (.int v) S' := fun v S' h => by
    show endFn false (b__law_take.den (gAt prog.tab n) [.v .st, .v (.int m), .un] (some [.int a, .int b])) = _
    rw [h.eq]; rfl
  have c0 : ∀ {ρ : Rho} {x y : Int} {md : Nat}, md < 2 → Lk ρ 0 (.v .st) → Ev (gAt prog.tab n) (.idx (.var 0) (.int 0)) md ρ (some [.int x, .int y]) (.int x) := fun hm h => e_idxst (e_var h (by decide)) (e_int (by decide)) rfl hm
  have c1 : ∀ {ρ : Rho} {x y : Int} {md : Nat}, md < 2 → Lk ρ 0 (.v .st) → Ev (gAt prog.tab n) (.idx (.var 0) (.int 1)) md ρ (some [.int x, .int y]) (.int y) := fun hm h => e_idxst (e_var h (by decide)) (e_int (by decide)) rfl hm
  by_cases ha : 0 < a
  · refine ⟨a % m, a / m, b, ⟨Int.emod_nonneg a (by omega), Int.emod_lt_of_pos a h0⟩, key _ _ ?_⟩
    refine s_iteT (ev_to (d := .bl (decide (0 < a))) (e_cmp (c0 (by decide) ⟨rfl⟩) (by and_intros) c_gti (by decide)) (by rw [decide_eq_true ha])) ?_
    refine s_asg (d := .int (a % m)) (e_bin (e_blt (es_cons (c0 (by decide) ⟨rfl⟩) es_nil) bl_int nt1) (by and_intros) (b_modi h0) nt0) ?_
    refine s_setst (d := .int (a / m)) (z := 0) (j := 0) (e_bin (c0 (by decide) ⟨rfl⟩) (by and_intros) (b_divi ⟨h0, h1⟩) nt0) ⟨rfl⟩ (by and_intros) rfl ?_
    exact s_ret (e_var ⟨rfl⟩ (by decide))
  · refine ⟨((b * 48271 + 11) % 2147483647 / 7) % m, a, (b * 48271 + 11) % 2147483647, ⟨Int.emod_nonneg _ (by omega), Int.emod_lt_of_pos _ h0⟩, key _ _ ?_⟩
    refine s_iteF (ev_to (d := .bl (decide (0 < a))) (e_cmp (c0 (by decide) ⟨rfl⟩) (by and_intros) c_gti (by decide)) (by rw [decide_eq_false ha])) ?_
    refine s_setst (d := .int ((b * 48271 + 11) % 2147483647)) (z := 1) (j := 1) (e_bin (e_blt (es_cons (e_bin (e_bin (c1 (by decide) ⟨rfl⟩) (by and_intros) (b_muli (by decide)) nt1) (by and_intros) b_addi nt1) es_nil) bl_int nt1) (by and_intros) (b_modi (by decide)) nt0) ⟨rfl⟩ (by and_intros) rfl ?_
    exact s_ret (e_bin (e_blt (es_cons (e_bin (c1 (by decide) ⟨rfl⟩) (by and_intros) (b_divi (by decide)) nt1) es_nil) bl_int nt1) (by and_intros) (b_modi h0) nt0)
theorem take_st {n : Nat} {m : Int} {S : Sx} (hS : St S) (h0 : 0 < m) (h1 : m < 1073741824) : ∃ v S', St S' ∧ (0 ≤ v ∧ v < m) ∧ run prog.tab (n + 1) false k__law_take [.st, .int m] S = .ok (.int v) S' := by
  obtain ⟨a, b, rfl⟩ := hS
  obtain ⟨v, a', b', hv, e⟩ := take_ok (n := n) (a := a) (b := b) h0 h1
  exact ⟨v, _, ⟨a', b', rfl⟩, hv, e⟩
theorem cut_map {α : Type} (i : α → D) (l : List α) (lo hi : Option Int) : ∃ l' : List α, cutD (l.map i) lo hi = l'.map i :=
  ⟨(l.drop (HT.sIx (l.map i).length 0 lo)).take (HT.sIx (l.map i).length (l.map i).length hi - HT.sIx (l.map i).length 0 lo), by rw [List.map_take, List.map_drop]; rfl⟩
theorem state_ok {n : Nat} (zs : List Int) : ∃ a b : Int, run prog.tab (n + 1) false k__law_state [.scr (zs.map D.int)] none = .ok (.lst [.int a, .int b]) none := by
  obtain ⟨l, hl⟩ := cut_map D.int zs none (some 63)
  have key : ∀ a b : Int, Sv (gAt prog.tab n) b__law_state [.v (.scr (zs.map D.int)), .un, .un, .un] none (.ret true (.lst [.int a, .int b]) none) → run prog.tab (n + 1) false k__law_state [.scr (zs.map D.int)] none = .ok (.lst [.int a, .int b]) none := fun a b h => by
    show endFn true (b__law_state.den (gAt prog.tab n) [.v (.scr (zs.map D.int)), .un, .un, .un] none) = _
    rw [h.eq]; rfl
  let step : Int × Int → Int → Int × Int := fun s c => (s.1 * 1000003 + (if c < 0 then -c else c), (s.2 * 48271 + c) % 2147483647)
  refine ⟨(l.foldl step (0, 1)).1, (bif !decide ((l.foldl step (0, 1)).2 = 1973665155) then (l.foldl step (0, 1)).2 else 7), key _ _ ?_⟩
  refine s_asg (d := .int 0) (by and_intros) ?_
  refine s_asg (d := .int 1) (by and_intros) ?_
  refine s_for (i := D.int) (l := l) (ρ1 := [.v (.scr (zs.map D.int)), .v (.int (l.foldl step (0, 1)).1), .v (.int (l.foldl step (0, 1)).2), .un]) (fun (s : Int × Int) (z : Sl) => [.v (.scr (zs.map D.int)), .v (.int s.1), .v (.int s.2), z]) step (0, 1) .un ?_ rfl ?_ (fun z => rfl) ?_
  · refine sr_ex (x := .lst (l.map D.int)) ⟨?_⟩ rfl
    rw [E.den]
    show natM 0 (R.of none (some (D.lst (cutD (zs.map D.int) none (some 63))))) = _
    rw [hl]; rfl
  · intro pre a post e z
    refine ⟨.v (.int a), tu_nm ?_⟩
    generalize pre.foldl step (0, 1) = s
    refine s_asg (d := .int (s.1 * 1000003 + (if a < 0 then -a else a))) (e_bin (e_bin (by and_intros) (by and_intros) (b_muli (by decide)) nt1) (e_blt (es_cons (by and_intros) es_nil) bl_abs nt1) b_addi nt0) ?_
    refine s_asg (d := .int ((s.2 * 48271 + a) % 2147483647)) (e_bin (e_blt (es_cons (e_bin (e_bin (by and_intros) (by and_intros) (b_muli (by decide)) nt1) (by and_intros) b_addi nt1) es_nil) bl_int nt1) (by and_intros) (b_modi (by decide)) nt0) ?_
    exact s_nil
  · generalize l.foldl step (0, 1) = s
    have e : Ev (gAt prog.tab n) (.lst (.cons (.var 1) (.cons (.ite (.cmp .ne (.var 2) (.int 1973665155)) (.var 2) (.int 7)) .nil))) 2 [.v (.scr (zs.map D.int)), .v (.int s.1), .v (.int s.2), .un] none (.lst [.int s.1, .int (bif !decide (s.2 = 1973665155) then s.2 else 7)]) := by
      refine e_lst (es_cons (by and_intros) (es_cons (ev_to (e_ite (by and_intros) (fun _ => ew (by and_intros) rfl) (fun _ => ew (by and_intros) rfl)) ?_) es_nil))
      cases decide (s.2 = 1973665155) <;> rfl
    refine ⟨?_⟩
    rw [Ss.den, Pu.S.den, e.eq]; rfl
/-! told -/
abbrev toldR (r : R D) : R D := match r with
  | .ok d S => .ok (.tup [.str "told", d]) S
  | .exc c p S => if c = c_Malformed then .ok (.tup [.str "malformed", .non]) S else if c = c_Refused then (match p with
    | some d => .ok (.tup [.str "refused", d]) S
    | none => .stuck) else .stuck
  | .stuck => .stuck
theorem toldR_eq (r : R D) : endFn false (RS.next? (toldD c_Malformed "malformed" c_Refused "refused" (RS.next? (R.toS (R.bind (R.bind (R.bind r fun d S => R.bind (R.ok [] S) fun ds S => R.ok (d :: ds) S) fun ds S => R.ok (D.str "told" :: ds) S) fun ds S => R.ok (D.tup ds) S) fun d S => .ret false d S) fun ρ S => .next ρ S)) fun ρ S => .next ρ S) = toldR r := by
  cases r with
  | ok d S => rfl
  | stuck => rfl
  | exc c p S =>
    show endFn false (RS.next? (if c = c_Malformed then _ else if c = c_Refused then _ else _) _) = if c = c_Malformed then _ else if c = c_Refused then _ else _
    split
    · rfl
    · split
      · cases p <;> rfl
      · rfl
theorem told_fin {n : Nat} {ρ : Rho} {S : Sx} {e : E} {r : R D} (h : e.den (gAt prog.tab n) 0 ρ S = r) : endFn false ((Ss.cons (Pu.S.told (.cons (.ret (.tup (.cons (.str "told") (.cons e .nil)))) .nil) c_Malformed "malformed" c_Refused 2 "reason" "refused") .nil).den (gAt prog.tab n) ρ S) = toldR r := by
  rw [← toldR_eq, ← h, Ss.den, Pu.S.den, Ss.den, Pu.S.den, E.den, onlyNew_ok (by decide), Es.den, E.den, onlyNew_ok (by decide)]
  show endFn false (RS.next? (toldD _ _ _ _ (RS.next? (R.toS (R.bind (R.bind ((Es.cons e .nil).den (gAt prog.tab n) 0 ρ S) _) _) _) _)) _) = _
  rw [Es.den]
  rfl
theorem told_ite {n : Nat} {ρ : Rho} {S : Sx} {c a b : E} {p : Bool} (h : Ev (gAt prog.tab n) c 0 ρ S (.bl p)) : (E.ite c a b).den (gAt prog.tab n) 0 ρ S = bif p then a.den (gAt prog.tab n) 0 ρ S else b.den (gAt prog.tab n) 0 ρ S := by
  rw [E.den, h.eq]
  cases p <;> rfl
theorem told_callv {n k : Nat} {ρ : Rho} {S : Sx} {es : Es} {ds : List D} (hf : prog.tab.fr k = false) (h0 : Lk ρ 0 (.v (.fn k))) (h : Evs (gAt prog.tab n) es 0 ρ S ds) : (E.callv 0 es).den (gAt prog.tab n) 0 ρ S = run prog.tab n false k ds S := by
  rw [E.den, h0.eq]
  show R.bind (es.den (gAt prog.tab n) 0 ρ S) _ = _
  rw [h.eq]
  show (if prog.tab.fr k = true then R.stuck else run prog.tab n false k ds S) = _
  rw [hf]; rfl
theorem len_is {n : Nat} {ρ : Rho} {S : Sx} {i : Nat} {l : List D} {z : Int} {b : Bool} (h : Lk ρ i (.v (.tup l))) (hb : decide ((l.length : Int) = z) = b) : Ev (gAt prog.tab n) (.cmp .eq (.blt .len (.cons (.var i) .nil)) (.int z)) 0 ρ S (.bl b) := by
  subst hb
  exact e_cmp (e_blt (es_cons (e_var h (by decide)) es_nil) bl_lent' nt1) (e_int (by decide)) c_eqi (by decide)
theorem told1 {n k : Nat} {a : D} {S : Sx} (hf : prog.tab.fr k = false) : run prog.tab (n + 1) false k__law_told [.fn k, .tup [a]] S = toldR (run prog.tab n false k [a] S) := by
  show endFn false (b__law_told.den (gAt prog.tab n) [.v (.fn k), .v (.tup [a]), .un] S) = _
  refine told_fin ?_
  rw [told_ite (len_is (l := [a]) (z := 1) (b := true) ⟨rfl⟩ rfl), cond_true, told_callv (ds := [a]) hf ⟨rfl⟩ (by and_intros)]
theorem told2 {n k : Nat} {a b : D} {S : Sx} (hf : prog.tab.fr k = false) : run prog.tab (n + 1) false k__law_told [.fn k, .tup [a, b]] S = toldR (run prog.tab n false k [a, b] S) := by
  show endFn false (b__law_told.den (gAt prog.tab n) [.v (.fn k), .v (.tup [a, b]), .un] S) = _
  refine told_fin ?_
  rw [told_ite (len_is (l := [a, b]) (z := 1) (b := false) ⟨rfl⟩ rfl), cond_false, told_ite (len_is (l := [a, b]) (z := 2) (b := true) ⟨rfl⟩ rfl), cond_true, told_callv (ds := [a, b]) hf ⟨rfl⟩ (by and_intros)]
theorem told3 {n k : Nat} {a b c : D} {S : Sx} (hf : prog.tab.fr k = false) : run prog.tab (n + 1) false k__law_told [.fn k, .tup [a, b, c]] S = toldR (run prog.tab n false k [a, b, c] S) := by
  show endFn false (b__law_told.den (gAt prog.tab n) [.v (.fn k), .v (.tup [a, b, c]), .un] S) = _
  refine told_fin ?_
  rw [told_ite (len_is (l := [a, b, c]) (z := 1) (b := false) ⟨rfl⟩ rfl), cond_false, told_ite (len_is (l := [a, b, c]) (z := 2) (b := false) ⟨rfl⟩ rfl), cond_false, told_callv (ds := [a, b, c]) hf ⟨rfl⟩ (by and_intros)]
/-! same -/
structure Sm (n : Nat) (d : D) : Prop where
  eq : ∀ S, run prog.tab n false k__law_same [d, d] S = .ok (.bl true) S
theorem sm_int {n : Nat} {i : Int} : Sm (n + 2) (.int i) := ⟨fun S => by
  refine (cl_mk (b := b__law_same) (d := .bl true) (ρ := [.v (.int i), .v (.int i), .un]) rfl ?_).eq
  refine s_iteF (by and_intros) (s_iteF (by and_intros) (s_iteF (by and_intros) (s_iteF (by and_intros) (s_iteF (ev_to (e_isN (e_var ⟨rfl⟩ (by decide)) (by decide)) rfl) (s_ret' (d := .bl (true && decide (i = i))) ?_ (by simp))))))
  and_intros⟩
theorem sm_bl {n : Nat} {i : Bool} : Sm (n + 1) (.bl i) := ⟨fun S => by
  refine (cl_mk (b := b__law_same) (d := .bl true) (ρ := [.v (.bl i), .v (.bl i), .un]) rfl ?_).eq
  refine s_iteT (by and_intros) (s_ret' (d := .bl (true && decide (i = i))) ?_ (by simp))
  and_intros⟩
theorem sm_non {n : Nat} : Sm (n + 1) .non := ⟨fun S => by
  refine (cl_mk (b := b__law_same) (d := .bl true) (ρ := [.v .non, .v .non, .un]) rfl ?_).eq
  refine s_iteF (by and_intros) (s_iteF (by and_intros) (s_iteF (by and_intros) (s_iteF (by and_intros) (s_iteT (ev_to (e_isN (e_var ⟨rfl⟩ (by decide)) (by decide)) rfl) ?_))))
  exact s_ret (ev_to (e_isN (e_var ⟨rfl⟩ (by decide)) (by decide)) rfl)⟩
theorem sm_str {n : Nat} {s : Str} (h : SeqAt.shaped (.str s) = true) : Sm (n + 1) (.str s) := ⟨fun S => by
  refine (cl_mk (b := b__law_same) (d := .bl true) (ρ := [.v (.str s), .v (.str s), .un]) rfl ?_).eq
  refine s_iteF (by and_intros) (s_iteF (by and_intros) (s_iteF (by and_intros) (s_iteT (by and_intros) (s_ret (e_and (p := true) (q := true) (by and_intros) (fun _ => ew (e_cmp (by and_intros) (by and_intros) ⟨?_⟩ (by decide)) rfl) (by decide))))))
  show (sameD (.str s) (.str s)).map D.bl = _
  have h' : SeqAt.shaped (D.str s).py = true := h
  unfold sameD
  rw [h']
  show some (D.bl (PyData.eqv (.str s) (.str s))) = _
  rw [PyData.eqv, beq_self_eq_true]⟩
theorem sm_tup {n : Nat} {ds : List D} (hl : ds.length ≤ 16777216) (h : ∀ d ∈ ds, Sm n d) : Sm (n + 1) (.tup ds) := ⟨fun S => by
  refine (cl_mk (b := b__law_same) (d := .bl true) (ρ := [.v (.tup ds), .v (.tup ds), .un]) rfl ?_).eq
  refine s_iteF (by and_intros) (s_iteT (by and_intros) (s_ret' (d := .bl (true && (decide ((ds.length : Int) = ds.length) && (rg 0 ((ds.length : Int)).toNat).all fun _ => true))) ?_ (by simp)))
  refine e_and (by and_intros) (fun _ => ew (e_and (by and_intros) (fun _ => ew (e_blt (es_cons (e_lcm (i := D.int) (j := D.bl) (f := fun _ => true) (d := fun _ => .bl true) (sr_rng1 (by and_intros) ⟨by omega, by omega⟩) tb_nm (fun k hk => ?_) can_bl) es_nil) bl_all nt0) rfl) (by decide)) rfl) (by decide)
  obtain ⟨h1, h2⟩ := rg_mem.mp hk
  have hk2 : k.toNat < ds.length := by omega
  have hx : L2.atI ds k = some ds[k.toNat] := by
    have := atI_nat (l := ds) (k := k.toNat) (List.getElem?_eq_getElem hk2)
    rwa [Int.toNat_of_nonneg h1] at this
  exact ew (e_call (ds := [ds[k.toNat], ds[k.toNat]]) (es_cons (e_idx (x := .tup ds) (y := .int k) (by and_intros) (by and_intros) ⟨hx⟩ (by decide)) (es_cons (e_idx (x := .tup ds) (y := .int k) (by and_intros) (by and_intros) ⟨hx⟩ (by decide)) es_nil)) ⟨(h _ (List.getElem_mem hk2)).eq S⟩ (by decide)) rfl⟩
theorem sm_lst {n : Nat} {ds : List D} (h : Sm n (.tup ds)) : Sm (n + 1) (.lst ds) := ⟨fun S => by
  refine (cl_mk (b := b__law_same) (d := .bl true) (ρ := [.v (.lst ds), .v (.lst ds), .un]) rfl ?_).eq
  refine s_iteF (by and_intros) (s_iteF (by and_intros) (s_iteT (by and_intros) (s_ret (e_and (p := true) (q := true) (by and_intros) (fun _ => ew (e_call (ds := [.tup ds, .tup ds]) (by and_intros) ⟨h.eq S⟩ (by decide)) rfl) (by decide)))))⟩
theorem sm_ints {n : Nat} {l : List Int} (hl : l.length ≤ 16777216) : Sm (n + 3) (iT l) := sm_tup (by rw [List.length_map]; exact hl) fun d hd => by
  obtain ⟨i, _, rfl⟩ := List.mem_map.mp hd
  exact sm_int
theorem sm_told {n : Nat} {d : D} (h : Sm (n + 1) d) : Sm (n + 2) (.tup [.str "told", d]) := sm_tup (by simp) fun e he => by
  rcases List.mem_cons.mp he with rfl | he
  · exact sm_str (by decide +kernel)
  · rw [List.mem_singleton.mp he]; exact h
theorem rows_ok {n : Nat} {a m : Int} {S : Sx} (hS : St S) (ha : 0 ≤ a ∧ a ≤ 16) (hm : 0 ≤ m ∧ m ≤ 16) : ∃ (rows : List (List Int)) (S' : Sx), St S' ∧ rows.length = a.toNat ∧ (∀ r ∈ rows, setB r m = true) ∧ run prog.tab (n + 2) false k__law_rows [.st, .int a, .int m] S = .ok (.lst (rows.map iT)) S' := by
  obtain ⟨kind, S1, h1, hk, e1⟩ := take_st (n := n) (m := 3) hS (by decide) (by decide)
  obtain ⟨rows, S2, h2, hl, hq, e2⟩ := x_lceach (g := gAt prog.tab (n + 1)) (m := 0) (P := St) (Q := fun r => setB r m = true) (j := iT) (i := D.int) (l := rg 0 a.toNat) (S := S1)
    (ρ := [.v .st, .v (.int a), .v (.int m), .v (.int kind), .un, .un]) (src := .rng1 (.var 1)) (tg := .nm 4) (own := [4]) (elt := .blt .tuple (.cons (.lc (.var 5) (.nm 5) (.rng1 (.var 2)) (.cmp .lt (.call k__law_take (.cons (.var 0) (.cons (.int 4) .nil))) (.bin .add (.int 1) (.var 3))) [5]) .nil))
    h1 (sr_rng1 (by and_intros) ⟨by omega, by omega⟩) tb_nm (fun g hg S hS => by
      obtain ⟨l, S', h, hs, e⟩ := x_lcsub (g := gAt prog.tab (n + 1)) (m := 1) (P := St) (i := D.int) (l := rg 0 m.toNat) (S := S) (v := 5) (src := .rng1 (.var 2)) (own := [5]) (cond := .cmp .lt (.call k__law_take (.cons (.var 0) (.cons (.int 4) .nil))) (.bin .add (.int 1) (.var 3)))
        (ρ := (wipe [.v .st, .v (.int a), .v (.int m), .v (.int kind), .un, .un] [4]).set 4 (.v (.int g))) hS (sr_rng1 (by and_intros) ⟨by omega, by omega⟩) tb_nm (fun x hx S hS => by
          obtain ⟨v, S', h, hv, e⟩ := take_st (n := n) (m := 4) hS (by decide) (by decide)
          exact ⟨_, S', h, x_cmp (x_call (ds := [.st, .int 4]) (by and_intros) e (by decide)) (x_of (d := .int (1 + kind)) (by and_intros)) c_lti (by decide)⟩) (fun x => ⟨rfl⟩)
      exact ⟨l, S', h, sub_set' hm.1 hs, x_blt (xs_cons e xs_nil) bl_tupl nt0⟩)
  refine ⟨rows, S2, h2, by rw [hl, rg_len], hq, ?_⟩
  have key : Sv (gAt prog.tab (n + 1)) b__law_rows [.v .st, .v (.int a), .v (.int m), .un, .un, .un] S (.ret false (.lst (rows.map iT)) S2) := by
    refine sx_asg (x_call (ds := [.st, .int 3]) (by and_intros) e1 (by decide)) ⟨?_⟩
    rw [Ss.den, Pu.S.den]
    have := e2.eq
    show RS.next? (R.toS (E.den _ (.lc _ _ _ _ _) 0 [.v .st, .v (.int a), .v (.int m), .v (.int kind), .un, .un] S1) _) _ = _
    rw [this]; rfl
  show endFn false (b__law_rows.den (gAt prog.tab (n + 1)) [.v .st, .v (.int a), .v (.int m), .un, .un, .un] S) = _
  rw [key.eq]; rfl
end Pu

/-! ======== Plaw2 ======== -/
namespace Pu
open PySem
local macro_rules | `(tactic| and_intros) => `(tactic| repeat' first
  | exact nt0 | exact nt1 | exact nt2 | exact Nat.zero_lt_two | exact Nat.one_lt_two
  | exact e_var ⟨rfl⟩ Nat.zero_lt_two | exact e_var ⟨rfl⟩ Nat.one_lt_two | exact e_varb ⟨rfl⟩
  | apply e_int | apply e_bl | apply e_non | apply e_str | apply e_gfn | apply e_gint
  | exact es_nil | apply es_cons | apply e_tup | apply e_lst | apply e_bin | apply e_neg | apply e_cmp | apply e_chain | apply e_isN
  | apply e_and | apply e_or | apply e_not | apply e_ite | apply e_call | apply e_blt | apply e_isin | apply e_fld | apply e_idx
  | apply e_lcid | apply e_lcm | apply e_lcf | apply e_sortk
  | exact cl_inst | exact fd_inst | exact ix0 | exact ix1 | exact ix2
  | apply ew | apply cw
  | apply e_tupS | apply e_lstS | apply sr_rng1 | apply sr_rng2 | apply sr_enum | apply sr_zipt | apply sr_zipl | exact sr_dk ⟨rfl⟩ | apply sr_ex
  | exact tb_nm | exact tb_pr
  | exact can_int | exact can_bl | exact can_tp | exact can_ls | exact can_id | apply can_pr | apply can_tp1
  | exact e_no | exact lk rfl
  | exact b_addi | exact b_subi | apply b_addt | apply b_addl | apply b_addt1
  | exact c_lti | exact c_lei | exact c_gti | exact c_gei | exact c_eqi | exact c_nei | exact c_eqb | exact c_neb
  | exact c_eqt (by decide) | exact c_net (by decide) | exact c_eql (by decide) | exact c_nel (by decide)
  | exact c_int rfl (by decide) | exact c_inl rfl (by decide) | exact c_nint rfl (by decide) | exact c_ninl rfl (by decide)
  | exact bl_all | exact bl_any | exact bl_sum | exact bl_lent | exact bl_lenl | exact bl_lent' | exact bl_lenl' | exact bl_tupl | exact bl_tupt | exact bl_lstl | exact bl_lstt | exact bl_int
  | exact bl_sorted sb_int (by decide) | exact bl_sorted sb_pr (by decide) | exact bl_sorted sb_ls (by decide)
  | exact sb_int | exact sb_pr | exact sb_ls
  | apply s_ret | apply s_asg | apply s_asgb | apply s_asgt | apply s_par | exact s_nil | (refine s_frz ⟨rfl⟩ ?_) | (refine s_frzd ⟨rfl⟩ ?_) | apply s_expr
  | assumption
  | rfl
  | omega
  | intro _)
/-! sets and subsets, as the law has them -/
theorem set_ok {n : Nat} {m : Int} {S : Sx} (hS : St S) (hm : 0 ≤ m ∧ m ≤ 16) : ∃ (l : List Int) (S' : Sx), St S' ∧ setB l m = true ∧ run prog.tab (n + 2) false k__law_set [.st, .int m] S = .ok (iT l) S' := by
  obtain ⟨l, S', h, hs, e⟩ := x_lcsub (g := gAt prog.tab (n + 1)) (m := 1) (P := St) (i := D.int) (l := rg 0 m.toNat) (S := S) (v := 2) (src := .rng1 (.var 1)) (own := [2]) (cond := .cmp .eq (.call k__law_take (.cons (.var 0) (.cons (.int 2) .nil))) (.int 0))
    (ρ := [.v .st, .v (.int m), .un]) hS (sr_rng1 (by and_intros) ⟨by omega, by omega⟩) tb_nm (fun x hx S hS => by
      obtain ⟨v, S', h, hv, e⟩ := take_st (n := n) (m := 2) hS (by decide) (by decide)
      exact ⟨_, S', h, x_cmp (x_call (ds := [.st, .int 2]) (by and_intros) e (by decide)) (x_of (by and_intros)) c_eqi (by decide)⟩) (fun x => ⟨rfl⟩)
  refine ⟨l, S', h, sub_set' hm.1 hs, ?_⟩
  show endFn false (b__law_set.den (gAt prog.tab (n + 1)) [.v .st, .v (.int m), .un] S) = _
  have : b__law_set.den (gAt prog.tab (n + 1)) [.v .st, .v (.int m), .un] S = .ret false (iT l) S' := by
    show (Ss.cons (Pu.S.ret _) .nil).den _ _ _ = _
    rw [Ss.den, Pu.S.den, (x_blt (xs_cons e xs_nil) bl_tupl nt0).eq]
    rfl
  rw [this]; rfl
theorem cl_law_subsets {n : Nat} {m : Int} {S : Sx} (h0 : 0 ≤ m) (hm : m ≤ 8) : Cg prog.tab (n + 1) k__law_subsets [.int m] S (.lst ((subs m.toNat).map iT)) := by
  suffices h : Cl prog.tab (n + 1) k__law_subsets [.int m] S (.lst ((subs m.toNat).map iT)) from ⟨h.eq⟩
  refine cl_mk (b := b__law_subsets) (ρ := [.v (.int m), .un, .un, .un, .un]) rfl ?_
  refine s_asg (d := .lst ([[]].map iT)) (by and_intros) ?_
  refine s_for (i := D.int) (l := rg 0 m.toNat) (ρ1 := [.v (.int m), .v (.lst (((rg 0 m.toNat).foldl (fun (L : List (List Int)) x => L ++ L.map (· ++ [x])) [[]]).map iT)), .un, .un, .un]) (fun (L : List (List Int)) (z : Sl) => [.v (.int m), .v (.lst (L.map iT)), z, .un, .un]) (fun L x => L ++ L.map (· ++ [x])) [[]] .un ?_ rfl ?_ (fun z => rfl) ?_
  · exact sr_rng1 (by and_intros) ⟨by omega, by omega⟩
  · intro pre a post e z
    obtain ⟨e1, e2, e3⟩ := rg_split e
    rw [e1, subs_fold]
    refine ⟨.v (.int a), tu_nm ?_⟩
    have h1 := subsL_len pre.length
    have h2 := subsL_short pre.length
    have h3 : 2 ^ pre.length ≤ 2 ^ 8 := Nat.pow_le_pow_right (by decide) (by omega)
    refine s_asg (d := .lst ((subsL pre.length ++ (subsL pre.length).map (· ++ [a])).map iT)) ?_ s_nil
    refine e_bin (x := .lst ((subsL pre.length).map iT)) (y := .lst (((subsL pre.length).map (· ++ [a])).map iT)) (by and_intros) ?_ (b_addl (by rw [List.length_map]; omega)) nt0
    refine e_lcm (i := iT) (l := subsL pre.length) (d := fun l => iT (l ++ [a])) (by and_intros) tb_nm (fun l hl => ?_) can_tp
    have := h2 l hl
    apply ew
    · apply e_bin
      · and_intros
      · and_intros
      · exact b_addt1 rfl (by omega)
      · exact nt0
    · rfl
  · rw [subs_fold]
    refine s_ret ?_
    show Ev _ _ _ _ _ (.lst ((isort (leBy (ltPr ltI ltS) szk) (subsL m.toNat)).map iT))
    rw [← srt_deco (ltPr ltI ltS) szk (fun _ => rfl)]
    refine e_lcm (i := pr D.int iT) (l := srt (ltPr ltI ltS) ((subsL m.toNat).map szk)) (d := fun q => iT q.2) (j := iT) (f := fun q => q.2) ?_ tb_pr (fun q hq => ew (by and_intros) rfl) ⟨fun _ _ => rfl⟩
    refine sr_ex (x := .lst ((srt (ltPr ltI ltS) ((subsL m.toNat).map szk)).map (pr D.int iT))) (e_blt (es_cons ?_ es_nil) (bl_sorted sb_pr (by decide)) nt1) rfl
    exact e_lcm (i := iT) (l := subsL m.toNat) (d := fun p => .tup [.int p.length, iT p]) (j := pr D.int iT) (f := szk) (by and_intros) tb_nm (fun p hp => by and_intros) ⟨fun _ _ => rfl⟩
end Pu

/-! ======== Prough ======== -/
namespace Pu
open PySem
local macro_rules | `(tactic| and_intros) => `(tactic| repeat' first
  | exact nt0 | exact nt1 | exact nt2 | exact Nat.zero_lt_two | exact Nat.one_lt_two
  | exact e_var ⟨rfl⟩ Nat.zero_lt_two | exact e_var ⟨rfl⟩ Nat.one_lt_two | exact e_varb ⟨rfl⟩
  | apply e_int | apply e_bl | apply e_non | apply e_str | apply e_gfn | apply e_gint
  | exact es_nil | apply es_cons | apply e_tup | apply e_lst | apply e_bin | apply e_neg | apply e_cmp | apply e_chain | apply e_isN
  | apply e_and | apply e_or | apply e_not | apply e_ite | apply e_call | apply e_blt | apply e_isin | apply e_fld | apply e_idx
  | apply e_lcid | apply e_lcm | apply e_lcf | apply e_sortk
  | exact cl_inst | exact fd_inst | exact ix0 | exact ix1 | exact ix2
  | apply ew | apply cw
  | apply e_tupS | apply e_lstS | apply sr_rng1 | apply sr_rng2 | apply sr_enum | apply sr_zipt | apply sr_zipl | exact sr_dk ⟨rfl⟩ | apply sr_ex
  | exact tb_nm | exact tb_pr
  | exact can_int | exact can_bl | exact can_tp | exact can_ls | exact can_id | apply can_pr | apply can_tp1
  | exact e_no | exact lk rfl
  | exact b_addi | exact b_subi | apply b_addt | apply b_addl | apply b_addt1
  | exact c_lti | exact c_lei | exact c_gti | exact c_gei | exact c_eqi | exact c_nei | exact c_eqb | exact c_neb
  | exact c_eqt (by decide) | exact c_net (by decide) | exact c_eql (by decide) | exact c_nel (by decide)
  | exact c_int rfl (by decide) | exact c_inl rfl (by decide) | exact c_nint rfl (by decide) | exact c_ninl rfl (by decide)
  | exact bl_all | exact bl_any | exact bl_sum | exact bl_lent | exact bl_lenl | exact bl_lent' | exact bl_lenl' | exact bl_tupl | exact bl_tupt | exact bl_lstl | exact bl_lstt | exact bl_int
  | exact bl_sorted sb_int (by decide) | exact bl_sorted sb_pr (by decide) | exact bl_sorted sb_ls (by decide)
  | exact sb_int | exact sb_pr | exact sb_ls
  | apply s_ret | apply s_asg | apply s_asgb | apply s_asgt | apply s_par | exact s_nil | (refine s_frz ⟨rfl⟩ ?_) | (refine s_frzd ⟨rfl⟩ ?_) | apply s_expr
  | assumption
  | rfl
  | omega
  | intro _)
/-! mirrors: looks -/
theorem cl_look {n : Nat} {marks : List Int} {tn tm : Int} {rows : List (List Int)} {S : Sx} (hm : setB marks tm = true) (hr : rows.length ≤ 8) : Cg prog.tab (n + 4) k_look_classes [tD tn tm rows, iT marks] S (tp iT (classes marks rows)) := by
  have hl : (enumL rows).length ≤ 8 := by simp [enumL]; exact hr
  suffices h : Cl prog.tab (n + 4) k_look_classes [tD tn tm rows, iT marks] S (tp iT (classes marks rows)) from ⟨h.eq⟩
  refine cl_mk (b := b_look_classes) (ρ := [.v (tD tn tm rows), .v (iT marks), .un, .un, .un, .un]) rfl ?_
  refine s_expr (d := .non) (by and_intros) ?_
  refine s_expr (d := .non) (e_call (ds := [iT marks, .int tm]) (es_cons (by and_intros) (es_cons (e_fld (x := tD tn tm rows) (by and_intros) fd_inst (by decide)) es_nil)) (cg_check_set hm) (by decide)) ?_
  refine s_asgd ?_
  refine s_for (i := pr D.int iT) (l := enumL rows) (ρ1 := [.v (tD tn tm rows), .v (iT marks), .dd (kvD iT (clKv marks (enumL rows))), .un, .un, .un]) (fun (L : List (List Int × List Int)) (z : Sl × Sl × Sl) => [.v (tD tn tm rows), .v (iT marks), .dd (kvD iT L), z.1, z.2.1, z.2.2]) (clStep marks) [] (.un, .un, .un) ?_ rfl ?_ (fun z => rfl) ?_
  · exact sr_enum (i := iT) (l := rows) (e_fld (x := tD tn tm rows) (by and_intros) fd_inst (by decide)) rfl
  · intro pre a post e z
    have hp : (clKv marks pre).length < 16777216 := by
      have h1 := clKv_len marks pre
      have h2 := congrArg List.length e
      rw [List.length_append, List.length_cons] at h2
      omega
    have ha : ((look (clKv marks pre) (metL marks a.2)).getD []).length ≤ 8 := by
      rw [clKv_look]
      have h1 := alikeL_len marks pre (metL marks a.2)
      have h2 := congrArg List.length e
      rw [List.length_append, List.length_cons] at h2
      split <;> simp <;> omega
    refine ⟨(.v (.int a.1), .v (iT a.2), .v (iT (metL marks a.2))), tu_tp2 ?_⟩
    refine s_asg (d := iT (metL marks a.2)) (by and_intros) ?_
    refine s_putd (j := iT) (l := clKv marks pre) (key := metL marks a.2) (v := (look (clKv marks pre) (metL marks a.2)).getD [] ++ [a.1]) ?_ ⟨rfl⟩ (by and_intros) hp s_nil
    exact e_bin (e_dgd (j := iT) (v := []) (by decide) (l := clKv marks pre) ⟨rfl⟩ (by and_intros) (by and_intros)) (by and_intros) (b_addt1 (i := D.int) rfl (by omega)) nt0
  · refine s_frzd (kvs := kvD iT (clKv marks (enumL rows))) ⟨rfl⟩ ?_
    have hs : Sr (gAt prog.tab (n + 3)) (.dk 2) 1 [.v (tD tn tm rows), .v (iT marks), .v (.dic ((kvD iT (clKv marks (enumL rows))).map (·.1)) ((kvD iT (clKv marks (enumL rows))).map (·.2))), .un, .un, .un] S (((clKv marks (enumL rows)).map (·.1)).map iT) := by
      have e : ((kvD iT (clKv marks (enumL rows))).map (·.1)).map keyD = ((clKv marks (enumL rows)).map (·.1)).map iT := by
        rw [List.map_map, List.map_map, List.map_map]; rfl
      rw [← e]
      exact sr_dk ⟨rfl⟩
    have hL : Ev (gAt prog.tab (n + 3)) (.lc (.dix 2 (.var 5)) (.nm 5) (.dk 2) .no [5]) 1 [.v (tD tn tm rows), .v (iT marks), .v (.dic ((kvD iT (clKv marks (enumL rows))).map (·.1)) ((kvD iT (clKv marks (enumL rows))).map (·.2))), .un, .un, .un] S (.lst ((clL marks rows).map iT)) :=
      e_lcm (j := iT) (f := alikeL marks (enumL rows)) (d := fun k => iT (alikeL marks (enumL rows) k)) hs tb_nm (fun k hk => ew (e_dix (j := iT) (l := clKv marks (enumL rows)) (by decide) ⟨rfl⟩ (by and_intros) (clKv_key hk).1) rfl) can_tp
    exact s_ret (e_blt (es_cons (e_blt (es_cons hL es_nil) (bl_sorted (lt := ltS) (sb_tp clL_ne) (by decide)) nt1) es_nil) bl_tupl nt0)
theorem cl_inside {n : Nat} {marks things : List Int} {tn tm : Int} {rows : List (List Int)} {S : Sx} (hm : setB marks tm = true) (ht : setB things tn = true) (hr : rows.length ≤ 8) : Cg prog.tab (n + 5) k_inside [tD tn tm rows, iT marks, iT things] S (iT (insideL marks rows things)) := by
  suffices h : Cl prog.tab (n + 5) k_inside [tD tn tm rows, iT marks, iT things] S (iT (insideL marks rows things)) from ⟨h.eq⟩
  refine cl_mk (b := b_inside) (ρ := [.v (tD tn tm rows), .v (iT marks), .v (iT things), .un, .un]) rfl ?_
  refine s_expr (d := .non) (by and_intros) ?_
  refine s_expr (d := .non) (e_call (ds := [iT things, .int tn]) (es_cons (by and_intros) (es_cons (by and_intros) es_nil)) (cg_check_set ht) (by decide)) ?_
  refine s_asgb (ds := []) (by and_intros) ?_
  refine s_for (i := iT) (l := classes marks rows) (ρ1 := [.v (tD tn tm rows), .v (iT marks), .v (iT things), .b (iD (((classes marks rows).filter fun c => inL c things).flatten)), .un]) (fun (L : List Int) (z : Sl) => [.v (tD tn tm rows), .v (iT marks), .v (iT things), .b (iD L), z]) (fun acc c => if inL c things = true then acc ++ c else acc) [] .un ?_ rfl ?_ (fun z => ?_) ?_
  · exact sr_ext (e_call (ds := [tD tn tm rows, iT marks]) (by and_intros) (cl_look hm hr) (by decide))
  · intro pre a post e z
    refine ⟨.v (iT a), tu_nm ?_⟩
    refine s_ite (p := inL a things) (by and_intros) (fun h => ?_) (fun h => ?_)
    · rw [if_pos h, foldl_if_flat]
      have h1 : ((pre.filter fun c => inL c things).flatten).length ≤ rows.length * (pre.filter fun c => inL c things).length := flat_len fun c hc => classes_le (marks := marks) c (e ▸ List.mem_append_left _ (List.mem_filter.mp hc).1)
      have h2 := List.length_filter_le (fun c => inL c things) pre
      have h3 := classes_len (marks := marks) (rows := rows)
      have h4 := classes_le (marks := marks) (rows := rows) a (e ▸ List.mem_append_right _ List.mem_cons_self)
      rw [e, List.length_append, List.length_cons] at h3
      have h5 : rows.length * (pre.filter fun c => inL c things).length ≤ 8 * 8 := Nat.mul_le_mul hr (by omega)
      refine s_ext (es := iD a) (by and_intros) ⟨rfl⟩ (by rw [List.length_map, List.length_map]; omega) ?_
      rw [← List.map_append]
      exact s_nil
    · rw [if_neg (by rw [h]; decide)]
      exact s_nil
  · rw [foldl_if_flat]; rfl
  · refine s_ret ?_
    and_intros
theorem cl_told {n : Nat} {marks goal : List Int} {tn tm : Int} {rows : List (List Int)} {S : Sx} (hm : setB marks tm = true) (hg : setB goal tm = true) (hr : rows.length ≤ 8) (ht : ∀ c ∈ classes goal rows, setB c tn = true) : Cg prog.tab (n + 6) k_told_things [tD tn tm rows, iT marks, iT goal] S (iT (toldL marks rows goal)) := by
  suffices h : Cl prog.tab (n + 6) k_told_things [tD tn tm rows, iT marks, iT goal] S (iT (toldL marks rows goal)) from ⟨h.eq⟩
  refine cl_mk (b := b_told_things) (ρ := [.v (tD tn tm rows), .v (iT marks), .v (iT goal), .un, .un]) rfl ?_
  refine s_expr (d := .non) (by and_intros) ?_
  refine s_expr (d := .non) (e_call (ds := [iT goal, .int tm]) (es_cons (by and_intros) (es_cons (by and_intros) es_nil)) (cg_check_set hg) (by decide)) ?_
  refine s_asgb (ds := []) (by and_intros) ?_
  refine s_for (i := iT) (l := classes goal rows) (ρ1 := [.v (tD tn tm rows), .v (iT marks), .v (iT goal), .b (iD ((classes goal rows).flatMap (insideL marks rows))), .un]) (fun (L : List Int) (z : Sl) => [.v (tD tn tm rows), .v (iT marks), .v (iT goal), .b (iD L), z]) (fun acc c => acc ++ insideL marks rows c) [] .un ?_ rfl ?_ (fun z => ?_) ?_
  · exact sr_ext (e_call (ds := [tD tn tm rows, iT goal]) (by and_intros) (cl_look hg hr) (by decide))
  · intro pre a post e z
    refine ⟨.v (iT a), tu_nm ?_⟩
    rw [foldl_flat, List.nil_append]
    have h3 := classes_len (marks := goal) (rows := rows)
    rw [e, List.length_append, List.length_cons] at h3
    have h1 : (pre.flatMap (insideL marks rows)).length ≤ (rows.length * rows.length) * (pre.map (insideL marks rows)).length := by
      rw [List.flatMap_def]
      exact flat_len fun c hc => by
        obtain ⟨d, _, rfl⟩ := List.mem_map.mp hc
        exact insideL_len
    rw [List.length_map] at h1
    have h4 := insideL_len (marks := marks) (rows := rows) (things := a)
    have h5 : rows.length * rows.length ≤ 8 * 8 := Nat.mul_le_mul hr hr
    have h6 : rows.length * rows.length * pre.length ≤ 8 * 8 * 8 := Nat.mul_le_mul h5 (by omega)
    refine s_ext (es := iD (insideL marks rows a)) ?_ ⟨rfl⟩ (by rw [List.length_map, List.length_map]; omega) ?_
    · exact e_blt (es_cons (e_call (ds := [tD tn tm rows, iT marks, iT a]) (by and_intros) (cl_inside hm (ht a (e ▸ List.mem_append_right _ List.mem_cons_self)) hr) (by decide)) es_nil) bl_lstt nt2
    · rw [← List.map_append]
      exact s_nil
  · rw [foldl_flat, List.nil_append]; rfl
  · refine s_ret ?_
    and_intros
end Pu

/-! ======== Prough2 ======== -/
namespace Pu
open PySem
local macro_rules | `(tactic| and_intros) => `(tactic| repeat' first
  | exact nt0 | exact nt1 | exact nt2 | exact Nat.zero_lt_two | exact Nat.one_lt_two
  | exact e_var ⟨rfl⟩ Nat.zero_lt_two | exact e_var ⟨rfl⟩ Nat.one_lt_two | exact e_varb ⟨rfl⟩
  | apply e_int | apply e_bl | apply e_non | apply e_str | apply e_gfn | apply e_gint
  | exact es_nil | apply es_cons | apply e_tup | apply e_lst | apply e_bin | apply e_neg | apply e_cmp | apply e_chain | apply e_isN
  | apply e_and | apply e_or | apply e_not | apply e_ite | apply e_call | apply e_blt | apply e_isin | apply e_fld | apply e_idx
  | apply e_lcid | apply e_lcm | apply e_lcf | apply e_sortk
  | exact cl_inst | exact fd_inst | exact ix0 | exact ix1 | exact ix2
  | apply ew | apply cw
  | apply e_tupS | apply e_lstS | apply sr_rng1 | apply sr_rng2 | apply sr_enum | apply sr_zipt | apply sr_zipl | exact sr_dk ⟨rfl⟩ | apply sr_ex
  | exact tb_nm | exact tb_pr
  | exact can_int | exact can_bl | exact can_tp | exact can_ls | exact can_id | apply can_pr | apply can_tp1
  | exact e_no | exact lk rfl
  | exact b_addi | exact b_subi | apply b_addt | apply b_addl | apply b_addt1
  | exact c_lti | exact c_lei | exact c_gti | exact c_gei | exact c_eqi | exact c_nei | exact c_eqb | exact c_neb
  | exact c_eqt (by decide) | exact c_net (by decide) | exact c_eql (by decide) | exact c_nel (by decide)
  | exact c_int rfl (by decide) | exact c_inl rfl (by decide) | exact c_nint rfl (by decide) | exact c_ninl rfl (by decide)
  | exact bl_all | exact bl_any | exact bl_sum | exact bl_lent | exact bl_lenl | exact bl_lent' | exact bl_lenl' | exact bl_tupl | exact bl_tupt | exact bl_lstl | exact bl_lstt | exact bl_int
  | exact bl_sorted sb_int (by decide) | exact bl_sorted sb_pr (by decide) | exact bl_sorted sb_ls (by decide)
  | exact sb_int | exact sb_pr | exact sb_ls
  | apply s_ret | apply s_asg | apply s_asgb | apply s_asgt | apply s_par | exact s_nil | (refine s_frz ⟨rfl⟩ ?_) | (refine s_frzd ⟨rfl⟩ ?_) | apply s_expr
  | assumption
  | rfl
  | omega
  | intro _)
/-! mirrors: looks, the rest -/
def outB (c things : List Int) : Bool := decide (0 < ((metL c things).length : Int))
def outsideL (marks : List Int) (rows : List (List Int)) (things : List Int) : List Int := srt ltI ((classes marks rows).filter fun c => outB c things).flatten
theorem cl_outside {n : Nat} {marks things : List Int} {tn tm : Int} {rows : List (List Int)} {S : Sx} (hm : setB marks tm = true) (ht : setB things tn = true) (hr : rows.length ≤ 8) : Cg prog.tab (n + 5) k_outside [tD tn tm rows, iT marks, iT things] S (iT (outsideL marks rows things)) := by
  suffices h : Cl prog.tab (n + 5) k_outside [tD tn tm rows, iT marks, iT things] S (iT (outsideL marks rows things)) from ⟨h.eq⟩
  refine cl_mk (b := b_outside) (ρ := [.v (tD tn tm rows), .v (iT marks), .v (iT things), .un, .un]) rfl ?_
  refine s_expr (d := .non) (by and_intros) ?_
  refine s_expr (d := .non) (e_call (ds := [iT things, .int tn]) (es_cons (by and_intros) (es_cons (by and_intros) es_nil)) (cg_check_set ht) (by decide)) ?_
  refine s_asgb (ds := []) (by and_intros) ?_
  refine s_for (i := iT) (l := classes marks rows) (ρ1 := [.v (tD tn tm rows), .v (iT marks), .v (iT things), .b (iD (((classes marks rows).filter fun c => outB c things).flatten)), .un]) (fun (L : List Int) (z : Sl) => [.v (tD tn tm rows), .v (iT marks), .v (iT things), .b (iD L), z]) (fun acc c => if outB c things = true then acc ++ c else acc) [] .un ?_ rfl ?_ (fun z => ?_) ?_
  · exact sr_ext (e_call (ds := [tD tn tm rows, iT marks]) (by and_intros) (cl_look hm hr) (by decide))
  · intro pre a post e z
    refine ⟨.v (iT a), tu_nm ?_⟩
    refine s_ite (p := outB a things) (by and_intros) (fun h => ?_) (fun h => ?_)
    · rw [if_pos h, foldl_if_flat]
      have h1 : ((pre.filter fun c => outB c things).flatten).length ≤ rows.length * (pre.filter fun c => outB c things).length := flat_len fun c hc => classes_le (marks := marks) c (e ▸ List.mem_append_left _ (List.mem_filter.mp hc).1)
      have h2 := List.length_filter_le (fun c => outB c things) pre
      have h3 := classes_len (marks := marks) (rows := rows)
      have h4 := classes_le (marks := marks) (rows := rows) a (e ▸ List.mem_append_right _ List.mem_cons_self)
      rw [e, List.length_append, List.length_cons] at h3
      have h5 : rows.length * (pre.filter fun c => outB c things).length ≤ 8 * 8 := Nat.mul_le_mul hr (by omega)
      refine s_ext (es := iD a) (by and_intros) ⟨rfl⟩ (by rw [List.length_map, List.length_map]; omega) ?_
      rw [← List.map_append]
      exact s_nil
    · rw [if_neg (by rw [h]; decide)]
      exact s_nil
  · rw [foldl_if_flat]; rfl
  · refine s_ret ?_
    and_intros
theorem cl_edge {n : Nat} {marks things : List Int} {tn tm : Int} {rows : List (List Int)} {S : Sx} (hm : setB marks tm = true) (ht : setB things tn = true) (hr : rows.length ≤ 8) : Cg prog.tab (n + 6) k_edge [tD tn tm rows, iT marks, iT things] S (iT ((outsideL marks rows things).filter fun g => !decide (g ∈ insideL marks rows things))) := by
  suffices h : Cl prog.tab (n + 6) k_edge [tD tn tm rows, iT marks, iT things] S (iT ((outsideL marks rows things).filter fun g => !decide (g ∈ insideL marks rows things))) from ⟨h.eq⟩
  refine cl_mk (b := b_edge) (ρ := [.v (tD tn tm rows), .v (iT marks), .v (iT things), .un, .un]) rfl ?_
  refine s_asg (d := iT (insideL marks rows things)) (e_call (ds := [tD tn tm rows, iT marks, iT things]) (by and_intros) (cl_inside hm ht hr) (by decide)) ?_
  refine s_ret (e_blt (es_cons (e_lcid (i := D.int) (l := outsideL marks rows things) (c := fun g => !decide (g ∈ insideL marks rows things)) (sr_ext (e_call (ds := [tD tn tm rows, iT marks, iT things]) (by and_intros) (cl_outside hm ht hr) (by decide))) tb_nm (by and_intros) (by and_intros)) es_nil) bl_tupl nt0)
theorem cl_is_sharp {n : Nat} {marks things : List Int} {tn tm : Int} {rows : List (List Int)} {S : Sx} (hm : setB marks tm = true) (ht : setB things tn = true) (hr : rows.length ≤ 8) : Cg prog.tab (n + 6) k_is_sharp [tD tn tm rows, iT marks, iT things] S (.bl (decide (insideL marks rows things = things))) := by
  suffices h : Cl prog.tab (n + 6) k_is_sharp [tD tn tm rows, iT marks, iT things] S (.bl (decide (insideL marks rows things = things))) from ⟨h.eq⟩
  refine cl_mk (b := b_is_sharp) (ρ := [.v (tD tn tm rows), .v (iT marks), .v (iT things)]) rfl ?_
  exact s_ret (e_cmp (x := iT (insideL marks rows things)) (y := iT things) (e_call (ds := [tD tn tm rows, iT marks, iT things]) (by and_intros) (cl_inside hm ht hr) (by decide)) (by and_intros) (c_eqt (by decide)) (by decide))
theorem cl_finer {n : Nat} {one two : List Int} {tn tm : Int} {rows : List (List Int)} {S : Sx} (h1 : setB one tm = true) (h2 : setB two tm = true) (hr : rows.length ≤ 8) : Cg prog.tab (n + 5) k_is_finer_look [tD tn tm rows, iT one, iT two] S (.bl ((classes one rows).all fun own => (classes two rows).any fun wide => inL own wide)) := by
  suffices h : Cl prog.tab (n + 5) k_is_finer_look [tD tn tm rows, iT one, iT two] S (.bl ((classes one rows).all fun own => (classes two rows).any fun wide => inL own wide)) from ⟨h.eq⟩
  refine cl_mk (b := b_is_finer_look) (ρ := [.v (tD tn tm rows), .v (iT one), .v (iT two), .un, .un, .un]) rfl ?_
  refine s_asg (d := tp iT (classes two rows)) (e_call (ds := [tD tn tm rows, iT two]) (by and_intros) (cl_look h2 hr) (by decide)) ?_
  refine s_ret (e_blt (es_cons (e_lcm (i := iT) (l := classes one rows) (j := D.bl) (f := fun own => (classes two rows).any fun wide => inL own wide) (d := fun own => .bl ((classes two rows).any fun wide => inL own wide)) (sr_ext (e_call (ds := [tD tn tm rows, iT one]) (by and_intros) (cl_look h1 hr) (by decide))) tb_nm (fun own ho => ?_) can_bl) es_nil) bl_all nt0)
  exact ew (e_blt (es_cons (e_lcm (i := iT) (l := classes two rows) (j := D.bl) (f := fun wide => inL own wide) (d := fun wide => .bl (inL own wide)) (sr_ext (by and_intros)) tb_nm (by and_intros) can_bl) es_nil) bl_any nt0) rfl
instance cl_size_key {n : Nat} {l : List Int} {S : Sx} : Cl prog.tab (n + 1) k_size_key [iT l] S (.tup [.int l.length, iT l]) := by
  refine cl_mk (b := b_size_key) (ρ := [.v (iT l)]) rfl ?_
  and_intros
def shStep (L : List (List Int)) (own : List Int) : List (List Int) := L ++ L.map fun low => srt ltI (low ++ own)
def shL (cs : List (List Int)) : List (List Int) := cs.foldl shStep [[]]
theorem shL_snoc (cs : List (List Int)) (c : List Int) : shL (cs ++ [c]) = shStep (shL cs) c := by unfold shL; rw [List.foldl_append]; rfl
theorem shL_len : ∀ cs : List (List Int), (shL cs).length = 2 ^ cs.length :=
  snoc_ind rfl fun cs c ih => by
    rw [shL_snoc]
    unfold shStep
    rw [List.length_append, List.length_map, ih, List.length_append, List.length_singleton, Nat.pow_succ]
    omega
theorem shL_short : ∀ cs : List (List Int), (∀ c ∈ cs, c.length ≤ 8) → ∀ l ∈ shL cs, l.length ≤ 8 * cs.length :=
  snoc_ind (fun _ l hl => by rw [show shL [] = [[]] from rfl, List.mem_singleton] at hl; rw [hl]; exact Nat.zero_le _) fun cs c ih h l hl => by
    rw [shL_snoc] at hl
    have h1 := ih (fun d hd => h d (List.mem_append_left _ hd))
    have h2 := h c (List.mem_append_right _ List.mem_cons_self)
    rw [List.length_append, List.length_singleton]
    rcases List.mem_append.mp hl with hl | hl
    · have := h1 l hl; omega
    · obtain ⟨a, ha, rfl⟩ := List.mem_map.mp hl
      have := h1 a ha
      rw [(srt_perm _ _).length_eq, List.length_append]
      omega
def sharpL (marks : List Int) (rows : List (List Int)) : List (List Int) := srt ltZ (shL (classes marks rows))
theorem cl_sharp_sets {n : Nat} {marks : List Int} {tn tm : Int} {rows : List (List Int)} {S : Sx} (hm : setB marks tm = true) (hr : rows.length ≤ 8) : Cg prog.tab (n + 5) k_sharp_sets [tD tn tm rows, iT marks] S (.lst ((sharpL marks rows).map iT)) := by
  suffices h : Cl prog.tab (n + 5) k_sharp_sets [tD tn tm rows, iT marks] S (.lst ((sharpL marks rows).map iT)) from ⟨h.eq⟩
  have hcl := classes_len (marks := marks) (rows := rows)
  have hcs := fun c hc => Nat.le_trans (classes_le (marks := marks) (rows := rows) c hc) hr
  refine cl_mk (b := b_sharp_sets) (ρ := [.v (tD tn tm rows), .v (iT marks), .un, .un, .un, .un]) rfl ?_
  refine s_asg (d := tp iT (classes marks rows)) (e_call (ds := [tD tn tm rows, iT marks]) (by and_intros) (cl_look hm hr) (by decide)) ?_
  refine s_asg (d := .lst ([[]].map iT)) (by and_intros) ?_
  refine s_for (i := iT) (l := classes marks rows) (ρ1 := [.v (tD tn tm rows), .v (iT marks), .v (tp iT (classes marks rows)), .v (.lst ((shL (classes marks rows)).map iT)), .un, .un]) (fun (L : List (List Int)) (z : Sl) => [.v (tD tn tm rows), .v (iT marks), .v (tp iT (classes marks rows)), .v (.lst (L.map iT)), z, .un]) shStep [[]] .un (sr_ext (by and_intros)) rfl ?_ (fun z => rfl) ?_
  · intro pre a post e z
    have h1 := shL_len pre
    have h2 := shL_short pre fun c hc => hcs c (e ▸ List.mem_append_left _ hc)
    have h3 := hcs a (e ▸ List.mem_append_right _ List.mem_cons_self)
    have h4 := congrArg List.length e
    rw [List.length_append, List.length_cons] at h4
    have h5 : 2 ^ pre.length ≤ 2 ^ 8 := Nat.pow_le_pow_right (by decide) (by omega)
    refine ⟨.v (iT a), tu_nm ?_⟩
    show Sv _ _ _ _ (.next [_, _, _, .v (.lst ((shStep (shL pre) a).map iT)), _, _] _)
    refine s_asg (d := .lst ((shStep (shL pre) a).map iT)) ?_ s_nil
    refine e_bin (x := .lst ((shL pre).map iT)) (y := .lst (((shL pre).map fun low => srt ltI (low ++ a)).map iT)) (by and_intros) ?_ (b_addl (by rw [List.length_map]; omega)) nt0
    refine e_lcm (i := iT) (l := shL pre) (j := iT) (f := fun low => srt ltI (low ++ a)) (d := fun low => iT (srt ltI (low ++ a))) (by and_intros) tb_nm (fun low hl => ?_) can_tp
    have := h2 low hl
    exact ew (e_blt (es_cons (e_blt (es_cons (e_bin (x := iT low) (y := iT a) (by and_intros) (by and_intros) (b_addt (by omega)) nt1) es_nil) (bl_sortedT (lt := ltI) sb_int (by decide)) nt1) es_nil) bl_tupl nt0) rfl
  · refine s_ret (ev_to (e_sortk (κ := szk) (d := fun l => .tup [.int l.length, iT l]) (j := pr D.int iT) (i := iT) (l := shL (classes marks rows)) ?_ ?_ ?_ rfl sb_pr (by decide)) rfl)
    · and_intros
    · and_intros
    · and_intros
def difM (m : Nat) (a b : List Int) : List Int := (rg 0 m).filter fun x => !decide (decide (x ∈ a) = decide (x ∈ b))
def difStep (m : Nat) (rows : List (List Int)) (acc : List (List Int × Bool)) (p : Int × List Int) : List (List Int × Bool) := (rows.take p.1.toNat).foldl (fun a two => put a (difM m p.2 two) true) acc
def difKv (m : Nat) (rows : List (List Int)) : List (List Int × Bool) := (enumL rows).foldl (difStep m rows) []
end Pu

/-! ======== Prough3 ======== -/
namespace Pu
open PySem
local macro_rules | `(tactic| and_intros) => `(tactic| repeat' first
  | exact nt0 | exact nt1 | exact nt2 | exact Nat.zero_lt_two | exact Nat.one_lt_two
  | exact e_var ⟨rfl⟩ Nat.zero_lt_two | exact e_var ⟨rfl⟩ Nat.one_lt_two | exact e_varb ⟨rfl⟩
  | apply e_int | apply e_bl | apply e_non | apply e_str | apply e_gfn | apply e_gint
  | exact es_nil | apply es_cons | apply e_tup | apply e_lst | apply e_bin | apply e_neg | apply e_cmp | apply e_chain | apply e_isN
  | apply e_and | apply e_or | apply e_not | apply e_ite | apply e_call | apply e_blt | apply e_isin | apply e_fld | apply e_idx
  | apply e_lcid | apply e_lcm | apply e_lcf | apply e_sortk
  | exact cl_inst | exact fd_inst | exact ix0 | exact ix1 | exact ix2
  | apply ew | apply cw
  | apply e_tupS | apply e_lstS | apply sr_rng1 | apply sr_rng2 | apply sr_enum | apply sr_zipt | apply sr_zipl | exact sr_dk ⟨rfl⟩ | apply sr_ex
  | exact tb_nm | exact tb_pr
  | exact can_int | exact can_bl | exact can_tp | exact can_ls | exact can_id | apply can_pr | apply can_tp1
  | exact e_no | exact lk rfl
  | exact b_addi | exact b_subi | apply b_addt | apply b_addl | apply b_addt1
  | exact c_lti | exact c_lei | exact c_gti | exact c_gei | exact c_eqi | exact c_nei | exact c_eqb | exact c_neb
  | exact c_eqt (by decide) | exact c_net (by decide) | exact c_eql (by decide) | exact c_nel (by decide)
  | exact c_int rfl (by decide) | exact c_inl rfl (by decide) | exact c_nint rfl (by decide) | exact c_ninl rfl (by decide)
  | exact bl_all | exact bl_any | exact bl_sum | exact bl_lent | exact bl_lenl | exact bl_lent' | exact bl_lenl' | exact bl_tupl | exact bl_tupt | exact bl_lstl | exact bl_lstt | exact bl_int
  | exact bl_sorted sb_int (by decide) | exact bl_sorted sb_pr (by decide) | exact bl_sorted sb_ls (by decide)
  | exact sb_int | exact sb_pr | exact sb_ls
  | apply s_ret | apply s_asg | apply s_asgb | apply s_asgt | apply s_par | exact s_nil | (refine s_frz ⟨rfl⟩ ?_) | (refine s_frzd ⟨rfl⟩ ?_) | apply s_expr
  | assumption
  | rfl
  | omega
  | intro _)
theorem enumL_nn {rows : List (List Int)} : ∀ p ∈ enumL rows, (0 : Int) ≤ p.1 := fun p hp => by
  unfold enumL at hp
  obtain ⟨q, _, rfl⟩ := List.mem_map.mp hp
  exact Int.natCast_nonneg _
theorem putFold_len {β : Type} (k : List Int → List Int) (v : β) : ∀ (l : List (List Int)) (acc : List (List Int × β)), (l.foldl (fun a two => put a (k two) v) acc).length ≤ acc.length + l.length
  | [], acc => Nat.le_refl _
  | x :: l, acc => by
    have h1 := putFold_len k v l (put acc (k x) v)
    have h2 := put_len (k x) v acc
    rw [List.foldl_cons, List.length_cons]
    omega
theorem difStep_len (m : Nat) (rows : List (List Int)) (acc : List (List Int × Bool)) (p : Int × List Int) : (difStep m rows acc p).length ≤ acc.length + rows.length := by
  unfold difStep
  have := putFold_len (fun two => difM m p.2 two) true (rows.take p.1.toNat) acc
  have h2 : (rows.take p.1.toNat).length ≤ rows.length := by rw [List.length_take]; omega
  omega
theorem difFold_len (m : Nat) (rows : List (List Int)) : ∀ ps : List (Int × List Int), (ps.foldl (difStep m rows) []).length ≤ ps.length * rows.length :=
  snoc_ind (Nat.zero_le _) fun ps p ih => by
    rw [List.foldl_append, List.length_append, List.length_singleton, Nat.add_mul, Nat.one_mul]
    have := difStep_len m rows (ps.foldl (difStep m rows) []) p
    exact Nat.le_trans this (by omega)
def difL (m : Nat) (rows : List (List Int)) : List (List Int) := srt ltZ (((difKv m rows).map (·.1)).filter fun own => decide (0 < (own.length : Int)))
theorem cl_difs {n : Nat} {tn tm : Int} {rows : List (List Int)} {S : Sx} (h0 : 0 ≤ tm) (h8 : tm ≤ 8) (hr : rows.length ≤ 8) : Cg prog.tab (n + 2) k_difference_rows [tD tn tm rows] S (.lst ((difL tm.toNat rows).map iT)) := by
  suffices h : Cl prog.tab (n + 2) k_difference_rows [tD tn tm rows] S (.lst ((difL tm.toNat rows).map iT)) from ⟨h.eq⟩
  have hl : (enumL rows).length ≤ 8 := by simp [enumL]; exact hr
  refine cl_mk (b := b_difference_rows) (ρ := [.v (tD tn tm rows), .un, .un, .un, .un, .un, .un]) rfl ?_
  refine s_expr (d := .non) (by and_intros) ?_
  refine s_asgd ?_
  refine s_for (i := pr D.int iT) (l := enumL rows) (ρ1 := [.v (tD tn tm rows), .dd (kvD D.bl (difKv tm.toNat rows)), .un, .un, .un, .un, .un]) (fun (L : List (List Int × Bool)) (z : Sl × Sl × Sl) => [.v (tD tn tm rows), .dd (kvD D.bl L), z.1, z.2.1, z.2.2, .un, .un]) (difStep tm.toNat rows) [] (.un, .un, .un) ?_ rfl ?_ (fun z => rfl) ?_
  · exact sr_enum (i := iT) (l := rows) (e_fld (x := tD tn tm rows) (by and_intros) fd_inst (by decide)) rfl
  · intro pre a post e z
    have ha : 0 ≤ a.1 := enumL_nn a (e ▸ List.mem_append_right _ List.mem_cons_self)
    have h1 := difFold_len tm.toNat rows pre
    have h2 := congrArg List.length e
    rw [List.length_append, List.length_cons] at h2
    have h3 : pre.length * rows.length ≤ 8 * 8 := Nat.mul_le_mul (by omega) hr
    generalize pre.foldl (difStep tm.toNat rows) [] = L at *
    refine ⟨(.v (.int a.1), .v (iT a.2), .un), tu_tp2 ?_⟩
    refine s_for (i := iT) (l := rows.take a.1.toNat) (ρ1 := [.v (tD tn tm rows), .dd (kvD D.bl (difStep tm.toNat rows L a)), .v (.int a.1), .v (iT a.2), .un, .un, .un]) (fun (M : List (List Int × Bool)) (z : Sl) => [.v (tD tn tm rows), .dd (kvD D.bl M), .v (.int a.1), .v (iT a.2), z, .un, .un]) (fun a' two => put a' (difM tm.toNat a.2 two) true) L z.2.2 (sr_ext (e_upto (l := rows) (e_fld (x := tD tn tm rows) (by and_intros) fd_inst (by decide)) (by and_intros) ha (by decide))) rfl ?_ (fun z => rfl) s_nil
    intro pre2 two post2 e2 z2
    have h4 := putFold_len (fun two => difM tm.toNat a.2 two) true pre2 L
    have h5 := congrArg List.length e2
    rw [List.length_append, List.length_cons, List.length_take] at h5
    generalize pre2.foldl (fun a' two => put a' (difM tm.toNat a.2 two) true) L = M at *
    refine ⟨.v (iT two), tu_nm ?_⟩
    refine s_putd (j := D.bl) (l := M) (key := difM tm.toNat a.2 two) (v := true) (by and_intros) ⟨rfl⟩ ?_ (by omega) s_nil
    exact e_blt (es_cons (e_lcid (i := D.int) (l := rg 0 tm.toNat) (c := fun x => !decide (decide (x ∈ a.2) = decide (x ∈ two))) (sr_rng1 (by and_intros) ⟨by omega, by omega⟩) tb_nm (by and_intros) (by and_intros)) es_nil) bl_tupl nt0
  · refine s_frzd (kvs := kvD D.bl (difKv tm.toNat rows)) ⟨rfl⟩ ?_
    have hs : Sr (gAt prog.tab (n + 1)) (.dk 1) 1 [.v (tD tn tm rows), .v (.dic ((kvD D.bl (difKv tm.toNat rows)).map (·.1)) ((kvD D.bl (difKv tm.toNat rows)).map (·.2))), .un, .un, .un, .un, .un] S (((difKv tm.toNat rows).map (·.1)).map iT) := by
      have e : ((kvD D.bl (difKv tm.toNat rows)).map (·.1)).map keyD = ((difKv tm.toNat rows).map (·.1)).map iT := by
        rw [List.map_map, List.map_map, List.map_map]; rfl
      rw [← e]
      exact sr_dk ⟨rfl⟩
    refine s_ret (ev_to (e_sortk (κ := szk) (d := fun l => .tup [.int l.length, iT l]) (j := pr D.int iT) (i := iT) (l := ((difKv tm.toNat rows).map (·.1)).filter fun own => decide (0 < (own.length : Int))) (e_lcid (i := iT) (l := (difKv tm.toNat rows).map (·.1)) (c := fun own => decide (0 < (own.length : Int))) hs tb_nm (by and_intros) (by and_intros)) ?_ ?_ rfl sb_pr (by decide)) rfl)
    · and_intros
    · and_intros
end Pu

/-! ======== Prough4 ======== -/
namespace Pu
open PySem
local macro_rules | `(tactic| and_intros) => `(tactic| repeat' first
  | exact nt0 | exact nt1 | exact nt2 | exact Nat.zero_lt_two | exact Nat.one_lt_two
  | exact e_var ⟨rfl⟩ Nat.zero_lt_two | exact e_var ⟨rfl⟩ Nat.one_lt_two | exact e_varb ⟨rfl⟩
  | apply e_int | apply e_bl | apply e_non | apply e_str | apply e_gfn | apply e_gint
  | exact es_nil | apply es_cons | apply e_tup | apply e_lst | apply e_bin | apply e_neg | apply e_cmp | apply e_chain | apply e_isN
  | apply e_and | apply e_or | apply e_not | apply e_ite | apply e_call | apply e_blt | apply e_isin | apply e_fld | apply e_idx
  | apply e_lcid | apply e_lcm | apply e_lcf | apply e_sortk
  | exact cl_inst | exact fd_inst | exact ix0 | exact ix1 | exact ix2
  | apply ew | apply cw
  | apply e_tupS | apply e_lstS | apply sr_rng1 | apply sr_rng2 | apply sr_enum | apply sr_zipt | apply sr_zipl | exact sr_dk ⟨rfl⟩ | apply sr_ex
  | exact tb_nm | exact tb_pr
  | exact can_int | exact can_bl | exact can_tp | exact can_ls | exact can_id | apply can_pr | apply can_tp1
  | exact e_no | exact lk rfl
  | exact b_addi | exact b_subi | apply b_addt | apply b_addl | apply b_addt1
  | exact c_lti | exact c_lei | exact c_gti | exact c_gei | exact c_eqi | exact c_nei | exact c_eqb | exact c_neb
  | exact c_eqt (by decide) | exact c_net (by decide) | exact c_eql (by decide) | exact c_nel (by decide)
  | exact c_int rfl (by decide) | exact c_inl rfl (by decide) | exact c_nint rfl (by decide) | exact c_ninl rfl (by decide)
  | exact bl_all | exact bl_any | exact bl_sum | exact bl_lent | exact bl_lenl | exact bl_lent' | exact bl_lenl' | exact bl_tupl | exact bl_tupt | exact bl_lstl | exact bl_lstt | exact bl_int
  | exact bl_sorted sb_int (by decide) | exact bl_sorted sb_pr (by decide) | exact bl_sorted sb_ls (by decide)
  | exact sb_int | exact sb_pr | exact sb_ls
  | apply s_ret | apply s_asg | apply s_asgb | apply s_asgt | apply s_par | exact s_nil | (refine s_frz ⟨rfl⟩ ?_) | (refine s_frzd ⟨rfl⟩ ?_) | apply s_expr
  | assumption
  | rfl
  | omega
  | intro _)
/-! mirrors: what is enough -/
theorem minStepLen {p : List Int → Bool} (ps : List (List Int)) : (ps.foldl (minStep p) []).length ≤ ps.length :=
  snoc_ind (P := fun ps => (ps.foldl (minStep p) []).length ≤ ps.length) (Nat.le_refl _) (fun ps a ih => by
    rw [List.foldl_append, List.length_append]
    show (minStep p (ps.foldl (minStep p) []) a).length ≤ _
    rw [minStep_eq]
    split
    · rw [List.length_append]; simp; omega
    · simp; omega) ps
theorem subsLen8 {m : Int} (hm : m ≤ 8) : (subs m.toNat).length ≤ 256 := by
  rw [subs_len]
  exact Nat.le_trans (Nat.pow_le_pow_right (by decide) (by omega : m.toNat ≤ 8)) (by decide)
/-- a set that meets all differences -/
def hitB (m : Nat) (rows : List (List Int)) (own : List Int) : Bool := (difL m rows).all fun row => decide (0 < ((metL own row).length : Int))
def enoughL (m : Nat) (rows : List (List Int)) : List (List Int) := (subs m).foldl (minStep (hitB m rows)) []
theorem cl_enough {n : Nat} {tn tm : Int} {rows : List (List Int)} {S : Sx} (h0 : 0 ≤ tm) (h8 : tm ≤ 8) (hr : rows.length ≤ 8) : Cg prog.tab (n + 3) k_enough_sets [tD tn tm rows] S (.lst ((enoughL tm.toNat rows).map iT)) := by
  suffices h : Cl prog.tab (n + 3) k_enough_sets [tD tn tm rows] S (.lst ((enoughL tm.toNat rows).map iT)) from ⟨h.eq⟩
  have hsl := subsLen8 h8
  refine cl_mk (b := b_enough_sets) (ρ := [.v (tD tn tm rows), .un, .un, .un, .un, .un]) rfl ?_
  refine s_asg (d := .lst ((difL tm.toNat rows).map iT)) (e_call (ds := [tD tn tm rows]) (by and_intros) (cl_difs h0 h8 hr) (by decide)) ?_
  refine s_asgb (ds := []) (by and_intros) ?_
  refine s_for (i := iT) (l := subs tm.toNat) (ρ1 := [.v (tD tn tm rows), .v (.lst ((difL tm.toNat rows).map iT)), .b ((enoughL tm.toNat rows).map iT), .un, .un, .un])
    (fun (L : List (List Int)) (z : Sl) => [.v (tD tn tm rows), .v (.lst ((difL tm.toNat rows).map iT)), .b (L.map iT), z, .un, .un]) (minStep (hitB tm.toNat rows)) [] .un (sr_ex (e_call (ds := [.int tm]) (by and_intros) (cl_subsets h0 h8) (by decide)) rfl) rfl ?_ (fun z => rfl) ?_
  · intro pre own post e z
    have he := congrArg List.length e
    rw [List.length_append, List.length_cons] at he
    have hl := minStepLen (p := hitB tm.toNat rows) pre
    generalize pre.foldl (minStep (hitB tm.toNat rows)) [] = L at *
    refine ⟨.v (iT own), tu_nm ?_⟩
    refine s_ite (p := hitB tm.toNat rows own && !(L.any fun low => inL low own)) (e_and (by and_intros) (fun _ => ew (by and_intros) rfl) (by decide)) (fun h => ?_) (fun h => ?_)
    · rw [Bool.and_comm] at h
      rw [minStep_eq, if_pos h]
      refine s_app (d := iT own) (by and_intros) ⟨rfl⟩ (by rw [List.length_map]; omega) ?_
      rw [show L.map iT ++ [iT own] = (L ++ [own]).map iT by rw [List.map_append]; rfl]
      exact s_nil
    · rw [Bool.and_comm] at h
      rw [minStep_eq, if_neg (by rw [h]; decide)]
      exact s_nil
  · exact s_frz ⟨rfl⟩ (s_ret (by and_intros))
end Pu

/-! ======== Prough5 ======== -/
namespace Pu
open PySem
local macro_rules | `(tactic| and_intros) => `(tactic| repeat' first
  | exact nt0 | exact nt1 | exact nt2 | exact Nat.zero_lt_two | exact Nat.one_lt_two
  | exact e_var ⟨rfl⟩ Nat.zero_lt_two | exact e_var ⟨rfl⟩ Nat.one_lt_two | exact e_varb ⟨rfl⟩
  | apply e_int | apply e_bl | apply e_non | apply e_str | apply e_gfn | apply e_gint
  | exact es_nil | apply es_cons | apply e_tup | apply e_lst | apply e_bin | apply e_neg | apply e_cmp | apply e_chain | apply e_isN
  | apply e_and | apply e_or | apply e_not | apply e_ite | apply e_call | apply e_blt | apply e_isin | apply e_fld | apply e_idx
  | apply e_lcid | apply e_lcm | apply e_lcf | apply e_sortk
  | exact cl_inst | exact fd_inst | exact ix0 | exact ix1 | exact ix2
  | apply ew | apply cw
  | apply e_tupS | apply e_lstS | apply sr_rng1 | apply sr_rng2 | apply sr_enum | apply sr_zipt | apply sr_zipl | exact sr_dk ⟨rfl⟩ | apply sr_ex
  | exact tb_nm | exact tb_pr
  | exact can_int | exact can_bl | exact can_tp | exact can_ls | exact can_id | apply can_pr | apply can_tp1
  | exact e_no | exact lk rfl
  | exact b_addi | exact b_subi | apply b_addt | apply b_addl | apply b_addt1
  | exact c_lti | exact c_lei | exact c_gti | exact c_gei | exact c_eqi | exact c_nei | exact c_eqb | exact c_neb
  | exact c_eqt (by decide) | exact c_net (by decide) | exact c_eql (by decide) | exact c_nel (by decide)
  | exact c_int rfl (by decide) | exact c_inl rfl (by decide) | exact c_nint rfl (by decide) | exact c_ninl rfl (by decide)
  | exact bl_all | exact bl_any | exact bl_sum | exact bl_lent | exact bl_lenl | exact bl_lent' | exact bl_lenl' | exact bl_tupl | exact bl_tupt | exact bl_lstl | exact bl_lstt | exact bl_int
  | exact bl_sorted sb_int (by decide) | exact bl_sorted sb_pr (by decide) | exact bl_sorted sb_ls (by decide)
  | exact sb_int | exact sb_pr | exact sb_ls
  | apply s_ret | apply s_asg | apply s_asgb | apply s_asgt | apply s_par | exact s_nil | (refine s_frz ⟨rfl⟩ ?_) | (refine s_frzd ⟨rfl⟩ ?_) | apply s_expr
  | assumption
  | rfl
  | omega
  | intro _)
/-! mirrors: enough for a goal, the core -/
def otherL (m : Nat) (goal : List Int) : List Int := (rg 0 m).filter fun x => !decide (x ∈ goal)
def goodB (m : Nat) (rows : List (List Int)) (goal own : List Int) : Bool := inL own (otherL m goal) && decide (toldL own rows goal = toldL (otherL m goal) rows goal)
def enoughForL (m : Nat) (rows : List (List Int)) (goal : List Int) : List (List Int) := (subs m).foldl (minStep (goodB m rows goal)) []
theorem cl_enough_for {n : Nat} {goal : List Int} {tn tm : Int} {rows : List (List Int)} {S : Sx} (h0 : 0 ≤ tm) (h8 : tm ≤ 8) (hg : setB goal tm = true) (hr : rows.length ≤ 8) (ht : ∀ c ∈ classes goal rows, setB c tn = true) : Cg prog.tab (n + 7) k_enough_for [tD tn tm rows, iT goal] S (.lst ((enoughForL tm.toNat rows goal).map iT)) := by
  suffices h : Cl prog.tab (n + 7) k_enough_for [tD tn tm rows, iT goal] S (.lst ((enoughForL tm.toNat rows goal).map iT)) from ⟨h.eq⟩
  have hsl := subsLen8 h8
  have ho : setB (otherL tm.toNat goal) tm = true := sub_set' h0 List.filter_sublist
  refine cl_mk (b := b_enough_for) (ρ := [.v (tD tn tm rows), .v (iT goal), .un, .un, .un, .un, .un, .un]) rfl ?_
  refine s_expr (d := .non) (by and_intros) ?_
  refine s_expr (d := .non) (e_call (ds := [iT goal, .int tm]) (es_cons (by and_intros) (es_cons (by and_intros) es_nil)) (cg_check_set hg) (by decide)) ?_
  refine s_asg (d := iT (otherL tm.toNat goal)) (e_blt (es_cons (e_lcid (i := D.int) (l := rg 0 tm.toNat) (c := fun x => !decide (x ∈ goal)) (sr_rng1 (by and_intros) ⟨by omega, by omega⟩) tb_nm (by and_intros) (by and_intros)) es_nil) bl_tupl nt0) ?_
  refine s_asg (d := iT (toldL (otherL tm.toNat goal) rows goal)) (e_call (ds := [tD tn tm rows, iT (otherL tm.toNat goal), iT goal]) (by and_intros) (cl_told ho hg hr ht) (by decide)) ?_
  refine s_asgb (ds := []) (by and_intros) ?_
  refine s_for (i := iT) (l := subs tm.toNat) (ρ1 := [.v (tD tn tm rows), .v (iT goal), .v (iT (otherL tm.toNat goal)), .v (iT (toldL (otherL tm.toNat goal) rows goal)), .b ((enoughForL tm.toNat rows goal).map iT), .un, .un, .un])
    (fun (L : List (List Int)) (z : Sl) => [.v (tD tn tm rows), .v (iT goal), .v (iT (otherL tm.toNat goal)), .v (iT (toldL (otherL tm.toNat goal) rows goal)), .b (L.map iT), z, .un, .un]) (minStep (goodB tm.toNat rows goal)) [] .un (sr_ex (e_call (ds := [.int tm]) (by and_intros) (cl_subsets h0 h8) (by decide)) rfl) rfl ?_ (fun z => rfl) ?_
  · intro pre own post e z
    have he := congrArg List.length e
    rw [List.length_append, List.length_cons] at he
    have hl := minStepLen (p := goodB tm.toNat rows goal) pre
    have hown : setB own tm = true := by
      have := subs_mem.mp (e ▸ List.mem_append_right _ List.mem_cons_self : own ∈ subs tm.toNat)
      rwa [Int.toNat_of_nonneg h0] at this
    generalize pre.foldl (minStep (goodB tm.toNat rows goal)) [] = L at *
    refine ⟨.v (iT own), tu_nm ?_⟩
    refine s_ite (p := goodB tm.toNat rows goal own) (e_and (by and_intros) (fun _ => ew (e_cmp (x := iT (toldL own rows goal)) (y := iT (toldL (otherL tm.toNat goal) rows goal)) (e_call (ds := [tD tn tm rows, iT own, iT goal]) (by and_intros) (cl_told hown hg hr ht) (by decide)) (by and_intros) (c_eqt (by decide)) (by decide)) rfl) (by decide)) (fun h => ?_) (fun h => ?_)
    · refine s_ite (p := !(L.any fun low => inL low own)) (by and_intros) (fun h2 => ?_) (fun h2 => ?_)
      · rw [minStep_eq, if_pos (by rw [h, h2]; rfl)]
        refine s_app (d := iT own) (by and_intros) ⟨rfl⟩ (by rw [List.length_map]; omega) ?_
        rw [show L.map iT ++ [iT own] = (L ++ [own]).map iT by rw [List.map_append]; rfl]
        exact s_nil
      · rw [minStep_eq, if_neg (by rw [h2]; simp)]
        exact s_nil
    · rw [minStep_eq, if_neg (by rw [h]; simp)]
      exact s_nil
  · exact s_frz ⟨rfl⟩ (s_ret (by and_intros))
end Pu

/-! ======== Prough6 ======== -/
namespace Pu
open PySem
local macro_rules | `(tactic| and_intros) => `(tactic| repeat' first
  | exact nt0 | exact nt1 | exact nt2 | exact Nat.zero_lt_two | exact Nat.one_lt_two
  | exact e_var ⟨rfl⟩ Nat.zero_lt_two | exact e_var ⟨rfl⟩ Nat.one_lt_two | exact e_varb ⟨rfl⟩
  | apply e_int | apply e_bl | apply e_non | apply e_str | apply e_gfn | apply e_gint
  | exact es_nil | apply es_cons | apply e_tup | apply e_lst | apply e_bin | apply e_neg | apply e_cmp | apply e_chain | apply e_isN
  | apply e_and | apply e_or | apply e_not | apply e_ite | apply e_call | apply e_blt | apply e_isin | apply e_fld | apply e_idx
  | apply e_lcid | apply e_lcm | apply e_lcf | apply e_sortk
  | exact cl_inst | exact fd_inst | exact ix0 | exact ix1 | exact ix2
  | apply ew | apply cw
  | apply e_tupS | apply e_lstS | apply sr_rng1 | apply sr_rng2 | apply sr_enum | apply sr_zipt | apply sr_zipl | exact sr_dk ⟨rfl⟩ | apply sr_ex
  | exact tb_nm | exact tb_pr
  | exact can_int | exact can_bl | exact can_tp | exact can_ls | exact can_id | apply can_pr | apply can_tp1
  | exact e_no | exact lk rfl
  | exact b_addi | exact b_subi | apply b_addt | apply b_addl | apply b_addt1
  | exact c_lti | exact c_lei | exact c_gti | exact c_gei | exact c_eqi | exact c_nei | exact c_eqb | exact c_neb
  | exact c_eqt (by decide) | exact c_net (by decide) | exact c_eql (by decide) | exact c_nel (by decide)
  | exact c_int rfl (by decide) | exact c_inl rfl (by decide) | exact c_nint rfl (by decide) | exact c_ninl rfl (by decide)
  | exact bl_all | exact bl_any | exact bl_sum | exact bl_lent | exact bl_lenl | exact bl_lent' | exact bl_lenl' | exact bl_tupl | exact bl_tupt | exact bl_lstl | exact bl_lstt | exact bl_int
  | exact bl_sorted sb_int (by decide) | exact bl_sorted sb_pr (by decide) | exact bl_sorted sb_ls (by decide)
  | exact sb_int | exact sb_pr | exact sb_ls
  | apply s_ret | apply s_asg | apply s_asgb | apply s_asgt | apply s_par | exact s_nil | (refine s_frz ⟨rfl⟩ ?_) | (refine s_frzd ⟨rfl⟩ ?_) | apply s_expr
  | assumption
  | rfl
  | omega
  | intro _)
def coreD (m : Nat) (rows : List (List Int)) : List Int := srt ltI (((difL m rows).filter fun own => decide ((own.length : Int) = 1)).map fun own => own.headD 0)
theorem cl_core_of {n : Nat} {tn tm : Int} {rows : List (List Int)} {S : Sx} (h0 : 0 ≤ tm) (h8 : tm ≤ 8) (hr : rows.length ≤ 8) : Cg prog.tab (n + 3) k_core_of [tD tn tm rows] S (iT (coreD tm.toNat rows)) := by
  suffices h : Cl prog.tab (n + 3) k_core_of [tD tn tm rows] S (iT (coreD tm.toNat rows)) from ⟨h.eq⟩
  refine cl_mk (b := b_core_of) (ρ := [.v (tD tn tm rows), .un]) rfl ?_
  refine s_ret (e_blt (es_cons (e_blt (es_cons (e_lcf (i := iT) (l := difL tm.toNat rows) (j := D.int) (f := fun own => own.headD 0) (c := fun own => decide ((own.length : Int) = 1)) (d := fun own => .int (own.headD 0)) (sr_ex (e_call (ds := [tD tn tm rows]) (by and_intros) (cl_difs h0 h8 hr) (by decide)) rfl) tb_nm (by and_intros) (fun own ho hc => ?_) can_int) es_nil) (bl_sorted (lt := ltI) sb_int (by decide)) nt1) es_nil) bl_tupl nt0)
  cases own with
  | nil => exact absurd hc (by decide)
  | cons x r => exact ew (e_idx (x := .tup (.int x :: r.map .int)) (y := .int 0) (by and_intros) (by and_intros) ix0 (by decide)) rfl
end Pu

/-! ======== Prough7 ======== -/
namespace Pu
open PySem
local macro_rules | `(tactic| and_intros) => `(tactic| repeat' first
  | exact nt0 | exact nt1 | exact nt2 | exact Nat.zero_lt_two | exact Nat.one_lt_two
  | exact e_var ⟨rfl⟩ Nat.zero_lt_two | exact e_var ⟨rfl⟩ Nat.one_lt_two | exact e_varb ⟨rfl⟩
  | apply e_int | apply e_bl | apply e_non | apply e_str | apply e_gfn | apply e_gint
  | exact es_nil | apply es_cons | apply e_tup | apply e_lst | apply e_bin | apply e_neg | apply e_cmp | apply e_chain | apply e_isN
  | apply e_and | apply e_or | apply e_not | apply e_ite | apply e_call | apply e_blt | apply e_isin | apply e_fld | apply e_idx
  | apply e_lcid | apply e_lcm | apply e_lcf | apply e_sortk
  | exact cl_inst | exact fd_inst | exact ix0 | exact ix1 | exact ix2
  | apply ew | apply cw
  | apply e_tupS | apply e_lstS | apply sr_rng1 | apply sr_rng2 | apply sr_enum | apply sr_zipt | apply sr_zipl | exact sr_dk ⟨rfl⟩ | apply sr_ex
  | exact tb_nm | exact tb_pr
  | exact can_int | exact can_bl | exact can_tp | exact can_ls | exact can_id | apply can_pr | apply can_tp1
  | exact e_no | exact lk rfl
  | exact b_addi | exact b_subi | apply b_addt | apply b_addl | apply b_addt1
  | exact c_lti | exact c_lei | exact c_gti | exact c_gei | exact c_eqi | exact c_nei | exact c_eqb | exact c_neb
  | exact c_eqt (by decide) | exact c_net (by decide) | exact c_eql (by decide) | exact c_nel (by decide)
  | exact c_int rfl (by decide) | exact c_inl rfl (by decide) | exact c_nint rfl (by decide) | exact c_ninl rfl (by decide)
  | exact bl_all | exact bl_any | exact bl_sum | exact bl_lent | exact bl_lenl | exact bl_lent' | exact bl_lenl' | exact bl_tupl | exact bl_tupt | exact bl_lstl | exact bl_lstt | exact bl_int
  | exact bl_sorted sb_int (by decide) | exact bl_sorted sb_pr (by decide) | exact bl_sorted sb_ls (by decide)
  | exact sb_int | exact sb_pr | exact sb_ls
  | apply s_ret | apply s_asg | apply s_asgb | apply s_asgt | apply s_par | exact s_nil | (refine s_frz ⟨rfl⟩ ?_) | (refine s_frzd ⟨rfl⟩ ?_) | apply s_expr
  | assumption
  | rfl
  | omega
  | intro _)
/-! ratios: some instance comes, and equal ones are == -/
abbrev rD (x y : Int) : D := .ins c_Ratio [.int x, .int y]
theorem gcd_step (a b : Int) (ha : 0 ≤ a) (hb : 0 < b) : Int.gcd b (a % b) = Int.gcd a b := by
  obtain ⟨x, rfl⟩ := Int.eq_ofNat_of_zero_le ha
  obtain ⟨y, rfl⟩ := Int.eq_ofNat_of_zero_le (show 0 ≤ b by omega)
  have : ((x : Int) % (y : Int)) = ((x % y : Nat) : Int) := by simp
  rw [this, Int.gcd_natCast_natCast, Int.gcd_natCast_natCast, Nat.gcd_comm x y, Nat.gcd_rec y x, Nat.gcd_comm]
theorem cl_common {n : Nat} {a b : Int} {S : Sx} (ha : 0 ≤ a) (hb : 0 ≤ b) (hm : b < 100000000) : Cg prog.tab (n + 1) k_common [.int a, .int b] S (.int (Int.gcd a b)) := by
  suffices h : Cl prog.tab (n + 1) k_common [.int a, .int b] S (.int (Int.gcd a b)) from ⟨h.eq⟩
  refine cl_mk (b := b_common) (ρ := [.v (.int a), .v (.int b)]) rfl ?_
  refine s_par (ds := [.int a, .int b]) (es_cons (ev_to (e_blt (es_cons (by and_intros) es_nil) bl_abs nt0) (by rw [if_neg (by omega)])) (es_cons (ev_to (e_blt (es_cons (by and_intros) es_nil) bl_abs nt0) (by rw [if_neg (by omega)])) es_nil)) rfl ?_
  refine s_while (fun _ (s : Int × Int) => [.v (.int s.1), .v (.int s.2)]) (fun s => 0 ≤ s.1 ∧ 0 ≤ s.2 ∧ Int.gcd s.1 s.2 = Int.gcd a b) (fun s => !decide (s.2 = 0)) (fun s => (s.2, s.1 % s.2)) (fun s => s.2.toNat) (s0 := (a, b)) rfl ⟨ha, hb, rfl⟩ ?_ ?_ ?_ ?_
  · intro s hs
    exact ew (by and_intros) rfl
  · intro s ⟨h1, h2, h3⟩ hc
    have hp : 0 < s.2 := by
      have : s.2 ≠ 0 := by simpa using hc
      omega
    refine ⟨s_par (ds := [.int s.2, .int (s.1 % s.2)]) (es_cons (by and_intros) (es_cons (e_bin (by and_intros) (by and_intros) (b_modi hp) nt0) es_nil)) rfl s_nil, ⟨h2, Int.emod_nonneg _ (by omega), ?_⟩, ?_⟩
    · rw [← h3]
      show Int.gcd s.2 (s.1 % s.2) = Int.gcd s.1 s.2
      exact gcd_step s.1 s.2 h1 hp
    · show (s.1 % s.2).toNat < s.2.toNat
      have := Int.emod_lt_of_pos s.1 hp
      have := Int.emod_nonneg s.1 (show s.2 ≠ 0 by omega)
      omega
  · show b.toNat < WF
    rw [wf_eq]; omega
  · intro s ⟨h1, h2, h3⟩ hc
    have h0 : s.2 = 0 := by simpa using hc
    have : s.1 = (Int.gcd a b : Int) := by
      rw [← h3, h0, Int.gcd_zero_right]; omega
    refine s_ret' (d := .int s.1) (by and_intros) (by rw [this])
theorem mk_ratio {n : Nat} {a b : Int} {S : Sx} (ha : 0 ≤ a) (hb : 0 < b) (hm : b < 100000000) : Mk prog.tab (n + 3) c_Ratio [.int a, .int b] S (rD (a / (Int.gcd a b : Int)) (b / (Int.gcd a b : Int))) := by
  have key : ∀ ρ, Sv (gAt prog.tab (n + 2)) b_Ratio___init__ [.o c_Ratio [], .v (.int a), .v (.int b), .un] S (.next ρ S) → run prog.tab (n + 3) true c_Ratio [.int a, .int b] S = endIni c_Ratio ["n", "d"] (.next ρ S) := fun ρ h => by
    rw [← h.eq]; rfl
  have hg : 0 < (Int.gcd a b : Int) := by
    have := Int.gcd_pos_of_ne_zero_right a (show b ≠ 0 by omega)
    omega
  have hg2 : (Int.gcd a b : Int) < 1073741824 := by
    have := Int.gcd_le_right (a := a) hb
    omega
  refine ⟨(key [.o c_Ratio [("n", .int (a / (Int.gcd a b : Int))), ("d", .int (b / (Int.gcd a b : Int)))], .v (.int a), .v (.int b), .v (.int (Int.gcd a b))] ?_).trans rfl⟩
  refine s_iteF (ev_to (d := .bl (!true || !true)) ?_ rfl) ?_
  · refine e_or (e_not (by and_intros) (by decide)) (fun _ => ew (e_not (by and_intros) (by decide)) rfl) (by decide)
  refine s_iteF (ev_to (d := .bl (decide (b = 0))) (by and_intros) (by rw [decide_eq_false (by omega)])) ?_
  refine s_iteF (ev_to (d := .bl (decide (b < 0))) (by and_intros) (by rw [decide_eq_false (by omega)])) ?_
  refine s_asg (d := .int (Int.gcd a b)) (e_call (ds := [.int a, .int b]) (by and_intros) (cl_common ha (by omega) hm) (by decide)) ?_
  refine s_setf (d := .int (a / (Int.gcd a b : Int))) (e_bin (by and_intros) (by and_intros) (b_divi ⟨hg, hg2⟩) nt0) ⟨rfl⟩ (by rfl) ?_
  refine s_setf (d := .int (b / (Int.gcd a b : Int))) (e_bin (by and_intros) (by and_intros) (b_divi ⟨hg, hg2⟩) nt0) ⟨rfl⟩ (by rfl) ?_
  exact s_nil
instance {k : Nat} {x y : Int} : Fd (gAt prog.tab k) (rD x y) "n" (.int x) := ⟨rfl⟩
instance {k : Nat} {x y : Int} : Fd (gAt prog.tab k) (rD x y) "d" (.int y) := ⟨rfl⟩
theorem cl_ratio_eq {n : Nat} {x y : Int} {S : Sx} : Cg prog.tab (n + 1) k_Ratio___eq__ [rD x y, rD x y] S (.bl true) := by
  suffices h : Cl prog.tab (n + 1) k_Ratio___eq__ [rD x y, rD x y] S (.bl true) from ⟨h.eq⟩
  refine cl_mk (b := b_Ratio___eq__) (ρ := [.v (rD x y), .v (rD x y)]) rfl ?_
  refine s_ret' (d := .bl (true && (decide (x = x) && decide (y = y)))) ?_ (by simp)
  refine e_and (e_isin (x := rD x y) (by and_intros) rfl (by decide)) (fun _ => ew (e_and (by and_intros) (fun _ => ew (by and_intros) rfl) (by decide)) rfl) (by decide)
theorem e_makeD {T : Tab} {n c m : Nat} {ρ : Rho} {S : Sx} {es : Es} {i : Int} {ds : List D} {d : D} (h1 : Evs (gAt T n) es 0 ρ S ds) (h : Mk T n c (ds ++ [.int i]) S d) (hm : m < 2) : Ev (gAt T n) (.makeD c es i) m ρ S d := ⟨by
  rw [E.den, onlyNew_ok hm, h1.eq]
  exact h.eq⟩
end Pu

/-! ======== Prough8 ======== -/
namespace Pu
open PySem
local macro_rules | `(tactic| and_intros) => `(tactic| repeat' first
  | exact nt0 | exact nt1 | exact nt2 | exact Nat.zero_lt_two | exact Nat.one_lt_two
  | exact e_var ⟨rfl⟩ Nat.zero_lt_two | exact e_var ⟨rfl⟩ Nat.one_lt_two | exact e_varb ⟨rfl⟩
  | apply e_int | apply e_bl | apply e_non | apply e_str | apply e_gfn | apply e_gint
  | exact es_nil | apply es_cons | apply e_tup | apply e_lst | apply e_bin | apply e_neg | apply e_cmp | apply e_chain | apply e_isN
  | apply e_and | apply e_or | apply e_not | apply e_ite | apply e_call | apply e_blt | apply e_isin | apply e_fld | apply e_idx
  | apply e_lcid | apply e_lcm | apply e_lcf | apply e_sortk
  | exact cl_inst | exact fd_inst | exact ix0 | exact ix1 | exact ix2
  | apply ew | apply cw
  | apply e_tupS | apply e_lstS | apply sr_rng1 | apply sr_rng2 | apply sr_enum | apply sr_zipt | apply sr_zipl | exact sr_dk ⟨rfl⟩ | apply sr_ex
  | exact tb_nm | exact tb_pr
  | exact can_int | exact can_bl | exact can_tp | exact can_ls | exact can_id | apply can_pr | apply can_tp1
  | exact e_no | exact lk rfl
  | exact b_addi | exact b_subi | apply b_addt | apply b_addl | apply b_addt1
  | exact c_lti | exact c_lei | exact c_gti | exact c_gei | exact c_eqi | exact c_nei | exact c_eqb | exact c_neb
  | exact c_eqt (by decide) | exact c_net (by decide) | exact c_eql (by decide) | exact c_nel (by decide)
  | exact c_int rfl (by decide) | exact c_inl rfl (by decide) | exact c_nint rfl (by decide) | exact c_ninl rfl (by decide)
  | exact bl_all | exact bl_any | exact bl_sum | exact bl_lent | exact bl_lenl | exact bl_lent' | exact bl_lenl' | exact bl_tupl | exact bl_tupt | exact bl_lstl | exact bl_lstt | exact bl_int
  | exact bl_sorted sb_int (by decide) | exact bl_sorted sb_pr (by decide) | exact bl_sorted sb_ls (by decide)
  | exact sb_int | exact sb_pr | exact sb_ls
  | apply s_ret | apply s_asg | apply s_asgb | apply s_asgt | apply s_par | exact s_nil | (refine s_frz ⟨rfl⟩ ?_) | (refine s_frzd ⟨rfl⟩ ?_) | apply s_expr
  | assumption
  | rfl
  | omega
  | intro _)
/-! mirrors: sharpness and shares -/
abbrev ratD (a b : Int) : D := rD (a / (Int.gcd a b : Int)) (b / (Int.gcd a b : Int))
abbrev shareD (a b : Int) : D := bif decide (0 < b) then ratD a b else ratD 1 1
theorem e_share {n m : Nat} {ρ : Rho} {S : Sx} {c x y : E} {a b : Int} (hc : Ev (gAt prog.tab (n + 3)) c 0 ρ S (.bl (decide (0 < b)))) (hx : Ev (gAt prog.tab (n + 3)) x 0 ρ S (.int a)) (hy : Ev (gAt prog.tab (n + 3)) y 0 ρ S (.int b)) (ha : 0 ≤ a) (hb : b < 100000000) (hm : m < 2) :
    Ev (gAt prog.tab (n + 3)) (.ite c (.make c_Ratio (.cons x (.cons y .nil))) (.makeD c_Ratio (.cons (.int 1) .nil) 1)) m ρ S (shareD a b) := by
  refine e_ite hc (fun h => ew (e_make (ds := [.int a, .int b]) (es_cons hx (es_cons hy es_nil)) (mk_ratio ha (by simpa using h) hb) hm) rfl) (fun h => ew (e_makeD (ds := [.int 1]) (by and_intros) (mk_ratio (a := 1) (b := 1) (by decide) (by decide) (by decide)) hm) rfl)
theorem outsideL_len {marks : List Int} {rows : List (List Int)} {things : List Int} : (outsideL marks rows things).length ≤ rows.length * rows.length := by
  unfold outsideL
  rw [(srt_perm _ _).length_eq]
  refine Nat.le_trans (flat_len fun c hc => classes_le (marks := marks) c (List.mem_filter.mp hc).1) (Nat.mul_le_mul_left _ ?_)
  exact Nat.le_trans (List.length_filter_le _ _) classes_len
theorem toldL_len {marks : List Int} {rows : List (List Int)} {goal : List Int} : (toldL marks rows goal).length ≤ rows.length := by
  rw [told_eq]
  exact Nat.le_trans (List.length_filter_le _ _) (by rw [rg_len]; exact Nat.le_refl _)
theorem cl_sharpness {n : Nat} {marks things : List Int} {tn tm : Int} {rows : List (List Int)} {S : Sx} (hm : setB marks tm = true) (ht : setB things tn = true) (hr : rows.length ≤ 8) : Cg prog.tab (n + 6) k_sharpness [tD tn tm rows, iT marks, iT things] S (shareD (insideL marks rows things).length (outsideL marks rows things).length) := by
  suffices h : Cl prog.tab (n + 6) k_sharpness [tD tn tm rows, iT marks, iT things] S (shareD (insideL marks rows things).length (outsideL marks rows things).length) from ⟨h.eq⟩
  refine cl_mk (b := b_sharpness) (ρ := [.v (tD tn tm rows), .v (iT marks), .v (iT things), .un]) rfl ?_
  refine s_asg (e_call (ds := [tD tn tm rows, iT marks, iT things]) (by and_intros) (cl_outside hm ht hr) (by decide)) ?_
  have h1 := outsideL_len (marks := marks) (rows := rows) (things := things)
  have h2 : rows.length * rows.length ≤ 8 * 8 := Nat.mul_le_mul hr hr
  refine s_ret (e_share (n := n + 2) (by and_intros) (e_blt (es_cons (e_call (ds := [tD tn tm rows, iT marks, iT things]) (by and_intros) (cl_inside hm ht hr) (by decide)) es_nil) bl_lent nt0) (by and_intros) (by omega) (by omega) (by decide))
theorem cl_told_share {n : Nat} {marks goal : List Int} {tn tm : Int} {rows : List (List Int)} {S : Sx} (hm : setB marks tm = true) (hg : setB goal tm = true) (hr : rows.length ≤ 8) (ht : ∀ c ∈ classes goal rows, setB c tn = true) (h8 : tn ≤ 8) : Cg prog.tab (n + 7) k_told_share [tD tn tm rows, iT marks, iT goal] S (shareD (toldL marks rows goal).length tn) := by
  suffices h : Cl prog.tab (n + 7) k_told_share [tD tn tm rows, iT marks, iT goal] S (shareD (toldL marks rows goal).length tn) from ⟨h.eq⟩
  refine cl_mk (b := b_told_share) (ρ := [.v (tD tn tm rows), .v (iT marks), .v (iT goal), .un]) rfl ?_
  refine s_asg (e_call (ds := [tD tn tm rows, iT marks, iT goal]) (by and_intros) (cl_told hm hg hr ht) (by decide)) ?_
  refine s_ret (e_share (n := n + 3) (by and_intros) (by and_intros) (by and_intros) (by omega) (by omega) (by decide))
/-! mirrors: the law's own -/
instance cl_law_within {n : Nat} {a b : List Int} {S : Sx} : Cl prog.tab (n + 1) k__law_within [iT a, iT b] S (.bl (inL a b)) := by
  refine cl_mk (b := b__law_within) (ρ := [.v (iT a), .v (iT b), .un]) rfl ?_
  and_intros
theorem ix_rowL' {rows : List (List Int)} {g : Int} (hg : g ∈ rg 0 rows.length) : Ix (.lst (rows.map iT)) (.int g) (iT (rowG rows g)) := by
  obtain ⟨h1, h2⟩ := rg_mem.mp hg
  have hk : g.toNat < rows.length := by omega
  have e : (rows.map iT)[g.toNat]? = some (iT (rowG rows g)) := by
    rw [List.getElem?_map, List.getElem?_eq_getElem hk]
    show some (iT rows[g.toNat]) = _
    unfold rowG
    rw [List.getD_eq_getElem?_getD, List.getElem?_eq_getElem hk]; rfl
  have := ix_lst (k := g.toNat) e
  rwa [Int.toNat_of_nonneg h1] at this
theorem flat_fold (lot : List (List Int)) : lot.foldl (fun (a : List Int) c => a ++ c) [] = lot.flatten := by
  have := foldl_flat (fun c : List Int => c) lot []
  rw [this, List.nil_append, List.flatMap_id']
theorem cg_law_joined {n : Nat} {lot : List (List Int)} {B : Nat} {S : Sx} (hB : ∀ c ∈ lot, c.length ≤ B) (hb : B * lot.length ≤ 16777216) : Cg prog.tab (n + 1) k__law_joined [.lst (lot.map iT)] S (iT (srt ltI lot.flatten)) := by
  suffices h : Cl prog.tab (n + 1) k__law_joined [.lst (lot.map iT)] S (iT (srt ltI lot.flatten)) from ⟨h.eq⟩
  refine cl_mk (b := b__law_joined) (ρ := [.v (.lst (lot.map iT)), .un, .un]) rfl ?_
  refine s_asg (d := .lst (iD [])) (by and_intros) ?_
  rw [← flat_fold]
  refine s_forR (i := iT) (l := lot) (step := fun a c => a ++ c) (fun ρ (L : List Int) (z : Sl) => (ρ.set 1 (.v (.lst (iD L)))).set 2 z) (fun pre L => L.length ≤ B * pre.length) (s0 := []) .un (sr_ex (by and_intros) rfl) rfl (Nat.zero_le _) ?_ (fun z => rfl) (fun _ => ?_)
  · intro pre a post L e hL z
    have ha := hB a (e ▸ List.mem_append_right _ List.mem_cons_self)
    have h2 := congrArg List.length e
    rw [List.length_append, List.length_cons] at h2
    have h3 : B * (pre.length + 1) ≤ B * lot.length := Nat.mul_le_mul_left _ (by omega)
    rw [Nat.mul_add, Nat.mul_one] at h3
    refine ⟨.v (iT a), tu_nm (s_asg (d := .lst (iD (L ++ a))) (e_bin (x := .lst (iD L)) (y := .lst (iD a)) (by and_intros) (by and_intros) ?_ nt0) s_nil), ?_⟩
    · exact b_addl (by omega)
    · rw [List.length_append, List.length_append, List.length_singleton, Nat.mul_add, Nat.mul_one]; omega
  · refine s_ret ?_
    and_intros
theorem clKv_rg (marks : List Int) (rows : List (List Int)) : clKv marks (enumL rows) = (rg 0 rows.length).foldl (fun acc g => clStep marks acc (g, rowG rows g)) [] := by
  unfold clKv
  rw [enumL_eq, List.foldl_map]
theorem cg_law_classes {n : Nat} {marks : List Int} {rows : List (List Int)} {S : Sx} (hr : rows.length ≤ 8) : Cg prog.tab (n + 1) k__law_classes [.lst (rows.map iT), iT marks] S (.lst ((classes marks rows).map iT)) := by
  refine cl_def [.v (.lst (rows.map iT)), .v (iT marks), .un, .un, .un, .un] (b := b__law_classes) rfl rfl rfl rfl ?_
  refine s_asgd ?_
  refine s_forR (i := D.int) (l := rg 0 rows.length) (step := fun acc g => clStep marks acc (g, rowG rows g)) (fun ρ (L : List (List Int × List Int)) (z : Sl × Sl) => ((ρ.set 2 (.dd (kvD iT L))).set 3 z.1).set 4 z.2) (fun pre L => L = clKv marks (pre.map fun g => (g, rowG rows g))) (s0 := []) (.un, .un) (sr_rlenl (l := rows) (by and_intros) (by omega)) rfl rfl ?_ (fun z => rfl) (fun _ => ?_)
  · intro pre a post L e hL z
    have ha : a ∈ rg 0 rows.length := e ▸ List.mem_append_right _ List.mem_cons_self
    have h2 := congrArg List.length e
    rw [List.length_append, List.length_cons, rg_len] at h2
    have hp : L.length < 16777216 := by
      have h1 := clKv_len marks (pre.map fun g => (g, rowG rows g))
      rw [← hL, List.length_map] at h1
      omega
    have hq : ((look L (metL marks (rowG rows a))).getD []).length ≤ 8 := by
      rw [hL, clKv_look]
      have h1 := alikeL_len marks (pre.map fun g => (g, rowG rows g)) (metL marks (rowG rows a))
      rw [List.length_map] at h1
      split
      · exact Nat.zero_le 8
      · exact Nat.le_trans h1 (by omega)
    refine ⟨(.v (.int a), .v (iT (metL marks (rowG rows a)))), tu_nm ?_, ?_⟩
    · refine s_asg (d := iT (metL marks (rowG rows a))) ?_ ?_
      · refine e_blt (es_cons (e_lcid (i := D.int) (l := marks) (c := fun x => decide (x ∈ rowG rows a)) (sr_ext (by and_intros)) tb_nm (fun x hx => ew (e_cmp (x := .int x) (y := iT (rowG rows a)) (by and_intros) (e_idx (x := .lst (rows.map iT)) (y := .int a) (by and_intros) (by and_intros) (ix_rowL' ha) (by decide)) (c_int rfl (by decide)) (by decide)) rfl) (by and_intros)) es_nil) bl_tupl nt0
      refine s_putd (j := iT) (l := L) (key := metL marks (rowG rows a)) (v := (look L (metL marks (rowG rows a))).getD [] ++ [a]) ?_ ⟨rfl⟩ (by and_intros) hp s_nil
      exact e_bin (e_dgd (j := iT) (v := []) (by decide) (l := L) ⟨rfl⟩ (by and_intros) (by and_intros)) (by and_intros) (b_addt1 (i := D.int) rfl (by omega)) nt0
    · rw [List.map_append, List.map_singleton, clKv_snoc, ← hL]
  · rw [← clKv_rg]
    refine s_frzd (kvs := kvD iT (clKv marks (enumL rows))) ⟨rfl⟩ ?_
    have hs : Sr (gAt prog.tab n) (.dk 2) 1 [.v (.lst (rows.map iT)), .v (iT marks), .v (.dic ((kvD iT (clKv marks (enumL rows))).map (·.1)) ((kvD iT (clKv marks (enumL rows))).map (·.2))), .un, .un, .un] S (((clKv marks (enumL rows)).map (·.1)).map iT) := by
      have e : ((kvD iT (clKv marks (enumL rows))).map (·.1)).map keyD = ((clKv marks (enumL rows)).map (·.1)).map iT := by
        rw [List.map_map, List.map_map, List.map_map]; rfl
      rw [← e]
      exact sr_dk ⟨rfl⟩
    have hL : Ev (gAt prog.tab n) (.lc (.dix 2 (.var 4)) (.nm 4) (.dk 2) .no [4]) 1 [.v (.lst (rows.map iT)), .v (iT marks), .v (.dic ((kvD iT (clKv marks (enumL rows))).map (·.1)) ((kvD iT (clKv marks (enumL rows))).map (·.2))), .un, .un, .un] S (.lst ((clL marks rows).map iT)) :=
      e_lcm (j := iT) (f := alikeL marks (enumL rows)) (d := fun k => iT (alikeL marks (enumL rows) k)) hs tb_nm (fun k hk => ew (e_dix (j := iT) (l := clKv marks (enumL rows)) (by decide) ⟨rfl⟩ (by and_intros) (clKv_key hk).1) rfl) can_tp
    exact s_ret (e_blt (es_cons hL es_nil) (bl_sorted (lt := ltS) (sb_tp clL_ne) (by decide)) nt0)
end Pu

/-! ======== X58 ======== -/
namespace Pu
open PySem
local macro_rules | `(tactic| and_intros) => `(tactic| repeat' first
  | exact nt0 | exact nt1 | exact nt2 | exact Nat.zero_lt_two | exact Nat.one_lt_two
  | exact e_var ⟨rfl⟩ Nat.zero_lt_two | exact e_var ⟨rfl⟩ Nat.one_lt_two | exact e_varb ⟨rfl⟩
  | apply e_int | apply e_bl | apply e_non | apply e_str | apply e_gfn | apply e_gint
  | exact es_nil | apply es_cons | apply e_tup | apply e_lst | apply e_bin | apply e_neg | apply e_cmp | apply e_chain | apply e_isN
  | apply e_and | apply e_or | apply e_not | apply e_ite | apply e_call | apply e_blt | apply e_isin | apply e_fld | apply e_idx
  | apply e_lcid | apply e_lcm | apply e_lcf | apply e_sortk
  | exact cl_inst | exact fd_inst | exact ix0 | exact ix1 | exact ix2
  | apply ew | apply cw
  | apply e_tupS | apply e_lstS | apply sr_rng1 | apply sr_rng2 | apply sr_enum | apply sr_zipt | apply sr_zipl | exact sr_dk ⟨rfl⟩ | apply sr_ex
  | exact tb_nm | exact tb_pr
  | exact can_int | exact can_bl | exact can_tp | exact can_ls | exact can_id | apply can_pr | apply can_tp1
  | exact e_no | exact lk rfl
  | exact b_addi | exact b_subi | apply b_addt | apply b_addl | apply b_addt1
  | exact c_lti | exact c_lei | exact c_gti | exact c_gei | exact c_eqi | exact c_nei | exact c_eqb | exact c_neb
  | exact c_eqt (by decide) | exact c_net (by decide) | exact c_eql (by decide) | exact c_nel (by decide)
  | exact c_int rfl (by decide) | exact c_inl rfl (by decide) | exact c_nint rfl (by decide) | exact c_ninl rfl (by decide)
  | exact bl_all | exact bl_any | exact bl_sum | exact bl_lent | exact bl_lenl | exact bl_lent' | exact bl_lenl' | exact bl_tupl | exact bl_tupt | exact bl_lstl | exact bl_lstt | exact bl_int
  | exact bl_sorted sb_int (by decide) | exact bl_sorted sb_pr (by decide) | exact bl_sorted sb_ls (by decide)
  | exact sb_int | exact sb_pr | exact sb_ls
  | apply s_ret | apply s_asg | apply s_asgb | apply s_asgt | apply s_par | exact s_nil | (refine s_frz ⟨rfl⟩ ?_) | (refine s_frzd ⟨rfl⟩ ?_) | apply s_expr
  | assumption
  | rfl
  | omega
  | intro _)
/-! k58: the mathematics -/
theorem insUq_mem {α : Type} [DecidableEq α] {lt : α → α → Bool} {x y : α} : ∀ {l : List α}, x ∈ insU lt y l ↔ x = y ∨ x ∈ l
  | [] => by simp [insU]
  | z :: l => by
    unfold insU
    split
    · simp
    · split
      · rename_i e; subst e; simp
      · rw [List.mem_cons, insUq_mem, List.mem_cons]
        constructor
        · rintro (h | h | h)
          · exact .inr (.inl h)
          · exact .inl h
          · exact .inr (.inr h)
        · rintro (h | h | h)
          · exact .inr (.inl h)
          · exact .inl h
          · exact .inr (.inr h)
theorem sortUq_mem {α : Type} [DecidableEq α] {lt : α → α → Bool} {x : α} : ∀ {l : List α}, x ∈ sortU lt l ↔ x ∈ l
  | [] => by simp [sortU]
  | z :: l => by
    show x ∈ insU lt z (sortU lt l) ↔ _
    rw [insUq_mem, sortUq_mem, List.mem_cons]
theorem insUq_srt {α : Type} [DecidableEq α] {lt : α → α → Bool} (h : Sto lt) {y : α} : ∀ {l : List α}, l.Pairwise (fun a b => lt a b = true) → (insU lt y l).Pairwise (fun a b => lt a b = true)
  | [], _ => List.pairwise_singleton _ _
  | z :: l, hl => by
    obtain ⟨h1, h2⟩ := List.pairwise_cons.mp hl
    unfold insU
    split
    · rename_i e
      refine List.pairwise_cons.mpr ⟨fun a ha => ?_, hl⟩
      rcases List.mem_cons.mp ha with rfl | ha
      · exact e
      · exact h.tr _ _ _ e (h1 a ha)
    · split
      · exact hl
      · rename_i e1 e2
        refine List.pairwise_cons.mpr ⟨fun a ha => ?_, insUq_srt h h2⟩
        rcases insUq_mem.mp ha with rfl | ha
        · rcases h.tt a z with q | q | q
          · exact absurd q e1
          · exact absurd q e2
          · exact q
        · exact h1 a ha
theorem sortUq_srt {α : Type} [DecidableEq α] {lt : α → α → Bool} (h : Sto lt) : ∀ l : List α, (sortU lt l).Pairwise (fun a b => lt a b = true)
  | [] => List.Pairwise.nil
  | _ :: l => insUq_srt h (sortUq_srt h l)
theorem sortUq_nodup {α : Type} [DecidableEq α] {lt : α → α → Bool} (h : Sto lt) (l : List α) : (sortU lt l).Nodup := (sortUq_srt h l).imp fun e => h.ne e
theorem ltRow_eq : ∀ a b : List Int, ltRow a b = ltS a b
  | [], [] => by simp [ltRow, ltLs]
  | [], _ :: _ => by simp [ltRow, ltLs]
  | _ :: _, [] => by simp [ltRow, ltLs]
  | x :: a, y :: b => by
    have ih := ltRow_eq a b
    unfold ltRow at *
    show decide _ = (if x = y then ltS a b else ltI x y)
    rw [← ih]
    unfold ltI
    by_cases h : x = y
    · subst h
      rw [if_pos rfl]
      exact decide_eq_decide.mpr (by simp [List.cons_lt_cons_iff])
    · rw [if_neg h]
      exact decide_eq_decide.mpr (by simp [List.cons_lt_cons_iff, h])
theorem stoRow : Sto ltRow := by
  have : ltRow = ltS := by funext a b; exact ltRow_eq a b
  rw [this]; exact stoS
/-- sorted by size, then the empty one left out -/
theorem sized_ne (K : List (List Int)) : ((srt (ltPr ltI ltS) (K.map szk)).filter fun q => decide (0 < q.1)).map (fun q => q.2) = (srt ltZ K).filter fun own => decide (0 < (own.length : Int)) := by
  have h1 : srt ltZ K = (srt (ltPr ltI ltS) (K.map szk)).map (fun q => q.2) := (srt_deco (ltPr ltI ltS) szk (fun _ => rfl) K).symm
  rw [h1, List.filter_map]
  congr 1
  refine List.filter_congr fun q hq => ?_
  have hq' := (srt_perm _ _).mem_iff.mp hq
  obtain ⟨a, _, rfl⟩ := List.mem_map.mp hq'
  rfl
theorem out_eq (c things : List Int) : outB c things = c.any fun g => decide (g ∈ things) := by
  unfold outB
  rw [Bool.eq_iff_iff, decide_eq_true_eq, List.any_eq_true]
  constructor
  · intro h
    have : metL c things ≠ [] := fun e => by rw [e] at h; simp at h
    obtain ⟨x, hx⟩ := List.exists_mem_of_ne_nil _ this
    exact ⟨x, (List.mem_filter.mp hx).1, (List.mem_filter.mp hx).2⟩
  · rintro ⟨x, h1, h2⟩
    have := List.length_pos_of_mem (List.mem_filter.mpr ⟨h1, h2⟩ : x ∈ metL c things)
    exact Int.ofNat_lt.mpr this
theorem pos_any (own row : List Int) : decide (0 < ((metL own row).length : Int)) = row.any fun x => decide (x ∈ own) := by
  have h := out_eq own row
  unfold outB at h
  rw [h, Bool.eq_iff_iff, List.any_eq_true, List.any_eq_true]
  constructor
  · rintro ⟨x, h1, h2⟩
    exact ⟨x, of_decide_eq_true h2, decide_eq_true h1⟩
  · rintro ⟨x, h1, h2⟩
    exact ⟨x, of_decide_eq_true h2, decide_eq_true h1⟩
/-! classes that are the same -/
theorem clsOf_mem {marks : List Int} {rows : List (List Int)} {g h : Int} : h ∈ clsOf marks rows g ↔ h ∈ rg 0 rows.length ∧ metL marks (rowG rows h) = metL marks (rowG rows g) := alike_mem
theorem cls_nodup {marks : List Int} {rows : List (List Int)} : (classes marks rows).Nodup := by
  have h1 := cls_disj (marks := marks) (rows := rows)
  refine List.Pairwise.imp_of_mem (fun {a b} ha hb h e => ?_) h1
  subst e
  obtain ⟨g, hg, rfl⟩ := cls_mem.mp ha
  have : g ∈ clsOf marks rows g := clsOf_mem.mpr ⟨hg, rfl⟩
  exact h g this g this rfl
theorem cls_strict {marks : List Int} {rows : List (List Int)} : (classes marks rows).Pairwise fun a b => ltS a b = true := strict_of stoS cls_nodup (stoS.sorted _)
theorem cls_eq_iff {A B : List Int} {rows : List (List Int)} : classes A rows = classes B rows ↔ ∀ g ∈ rg 0 rows.length, ∀ h ∈ rg 0 rows.length, (metL A (rowG rows h) = metL A (rowG rows g) ↔ metL B (rowG rows h) = metL B (rowG rows g)) := by
  constructor
  · intro e g hg h hh
    have h1 : clsOf A rows g ∈ classes A rows := cls_mem.mpr ⟨g, hg, rfl⟩
    rw [e] at h1
    obtain ⟨g', hg', e1⟩ := cls_mem.mp h1
    have h2 : g ∈ clsOf A rows g := clsOf_mem.mpr ⟨hg, rfl⟩
    have h3 : g ∈ clsOf B rows g' := by rw [e1] at h2; exact h2
    have h4 := (clsOf_mem.mp h3).2
    have h5 : clsOf A rows g = clsOf B rows g := by
      rw [e1]
      show alikeL B (enumL rows) _ = alikeL B (enumL rows) (metL B (rowG rows g))
      rw [h4]
    constructor
    · intro q
      have : h ∈ clsOf A rows g := clsOf_mem.mpr ⟨hh, q⟩
      rw [h5] at this
      exact (clsOf_mem.mp this).2
    · intro q
      have : h ∈ clsOf B rows g := clsOf_mem.mpr ⟨hh, q⟩
      rw [← h5] at this
      exact (clsOf_mem.mp this).2
  · intro H
    have h1 : ∀ g ∈ rg 0 rows.length, clsOf A rows g = clsOf B rows g := fun g hg => by
      unfold clsOf
      rw [alike_eq, alike_eq]
      exact List.filter_congr fun h hh => decide_eq_decide.mpr (H g hg h hh)
    have h2 : ∀ c, c ∈ classes A rows ↔ c ∈ classes B rows := fun c => by
      rw [cls_mem, cls_mem]
      constructor
      · rintro ⟨g, hg, rfl⟩; exact ⟨g, hg, h1 g hg⟩
      · rintro ⟨g, hg, rfl⟩; exact ⟨g, hg, (h1 g hg).symm⟩
    refine stoS.uniq ((List.perm_ext_iff_of_nodup cls_nodup cls_nodup).mpr h2) (stoS.sorted _) (stoS.sorted _)
theorem met_eq {A a b : List Int} : metL A a = metL A b ↔ ∀ x ∈ A, (x ∈ a ↔ x ∈ b) := by
  constructor
  · intro e x hx
    constructor
    · intro h
      have : x ∈ metL A a := List.mem_filter.mpr ⟨hx, decide_eq_true h⟩
      rw [e] at this
      exact of_decide_eq_true (List.mem_filter.mp this).2
    · intro h
      have : x ∈ metL A b := List.mem_filter.mpr ⟨hx, decide_eq_true h⟩
      rw [← e] at this
      exact of_decide_eq_true (List.mem_filter.mp this).2
  · intro H
    exact List.filter_congr fun x hx => decide_eq_decide.mpr (H x hx)
theorem dif_mem {m : Nat} {a b : List Int} {x : Int} : x ∈ difM m a b ↔ x ∈ rg 0 m ∧ ¬ (x ∈ a ↔ x ∈ b) := by
  unfold difM
  rw [List.mem_filter, Bool.not_eq_true', decide_eq_false_iff_not, decide_eq_decide]
theorem dif_set {m : Nat} {a b : List Int} : setB (difM m a b) m = true := sub_set List.filter_sublist
/-- the differences, as a set -/
def isDif (m : Nat) (rows : List (List Int)) (d : List Int) : Prop := ∃ g ∈ rg 0 rows.length, ∃ h ∈ rg 0 g.toNat, d = difM m (rowG rows g) (rowG rows h)
theorem putFold_mem (k : List Int → List Int) (x : List Int) : ∀ (l : List (List Int)) (acc : List (List Int × Bool)), x ∈ (l.foldl (fun a two => put a (k two) true) acc).map (·.1) ↔ x ∈ acc.map (·.1) ∨ ∃ two ∈ l, x = k two
  | [], acc => by simp
  | y :: l, acc => by
    rw [List.foldl_cons, putFold_mem k x l]
    have : x ∈ (put acc (k y) true).map (·.1) ↔ x ∈ acc.map (·.1) ∨ x = k y := by
      unfold put
      split
      · rename_i h
        have e : ((acc.map fun kv => if kv.1 = k y then (kv.1, true) else kv).map (·.1)) = acc.map (·.1) := by
          rw [List.map_map]
          exact List.map_congr_left fun q _ => by
            show (if q.1 = k y then (q.1, true) else q).1 = q.1
            split <;> rfl
        rw [e]
        constructor
        · exact .inl
        · rintro (h1 | h1)
          · exact h1
          · obtain ⟨q, hq, e⟩ := List.any_eq_true.mp h
            exact List.mem_map.mpr ⟨q, hq, (of_decide_eq_true e).trans h1.symm⟩
      · rw [List.map_append, List.mem_append]; simp
    rw [this]
    constructor
    · rintro ((h | h) | ⟨two, h, e⟩)
      · exact .inl h
      · exact .inr ⟨y, List.mem_cons_self, h⟩
      · exact .inr ⟨two, List.mem_cons_of_mem _ h, e⟩
    · rintro (h | ⟨two, h, e⟩)
      · exact .inl (.inl h)
      · rcases List.mem_cons.mp h with rfl | h
        · exact .inl (.inr e)
        · exact .inr ⟨two, h, e⟩
theorem putFold_nodup (k : List Int → List Int) : ∀ (l : List (List Int)) (acc : List (List Int × Bool)), (acc.map (·.1)).Nodup → ((l.foldl (fun a two => put a (k two) true) acc).map (·.1)).Nodup
  | [], _, h => h
  | _ :: l, _, h => putFold_nodup k l _ (put_keys _ _ _ h)
theorem take_rows {rows : List (List Int)} {g : Int} (hg : g ∈ rg 0 rows.length) {two : List Int} : two ∈ rows.take g.toNat ↔ ∃ h ∈ rg 0 g.toNat, two = rowG rows h := by
  obtain ⟨h1, h2⟩ := rg_mem.mp hg
  rw [List.mem_take_iff_getElem]
  constructor
  · rintro ⟨i, hi, rfl⟩
    refine ⟨(i : Int), rg_mem.mpr ⟨by omega, by omega⟩, ?_⟩
    unfold rowG
    rw [Int.toNat_natCast, List.getD_eq_getElem?_getD, List.getElem?_eq_getElem (by omega)]; rfl
  · rintro ⟨h, hh, rfl⟩
    obtain ⟨q1, q2⟩ := rg_mem.mp hh
    refine ⟨h.toNat, by omega, ?_⟩
    unfold rowG
    rw [List.getD_eq_getElem?_getD, List.getElem?_eq_getElem (by omega)]; rfl
theorem difKv_eq (m : Nat) (rows : List (List Int)) : difKv m rows = (rg 0 rows.length).foldl (fun acc g => difStep m rows acc (g, rowG rows g)) [] := by
  unfold difKv
  rw [enumL_eq, List.foldl_map]
theorem difKv_key {m : Nat} {rows : List (List Int)} {d : List Int} : d ∈ (difKv m rows).map (·.1) ↔ isDif m rows d := by
  rw [difKv_eq]
  have key : ∀ (gs : List Int) (acc : List (List Int × Bool)), (∀ g ∈ gs, g ∈ rg 0 rows.length) → (d ∈ (gs.foldl (fun acc g => difStep m rows acc (g, rowG rows g)) acc).map (·.1) ↔ d ∈ acc.map (·.1) ∨ ∃ g ∈ gs, ∃ h ∈ rg 0 g.toNat, d = difM m (rowG rows g) (rowG rows h)) := by
    intro gs
    induction gs with
    | nil => intro acc _; simp
    | cons g gs ih =>
      intro acc H
      rw [List.foldl_cons, ih _ fun x hx => H x (List.mem_cons_of_mem _ hx)]
      show d ∈ ((rows.take g.toNat).foldl (fun a two => put a (difM m (rowG rows g) two) true) acc).map (·.1) ∨ _ ↔ _
      rw [putFold_mem (fun two => difM m (rowG rows g) two)]
      constructor
      · rintro ((h | ⟨two, h, e⟩) | ⟨g', h, q⟩)
        · exact .inl h
        · obtain ⟨h', q, rfl⟩ := (take_rows (H g List.mem_cons_self)).mp h
          exact .inr ⟨g, List.mem_cons_self, h', q, e⟩
        · exact .inr ⟨g', List.mem_cons_of_mem _ h, q⟩
      · rintro (h | ⟨g', h, h', q, e⟩)
        · exact .inl (.inl h)
        · rcases List.mem_cons.mp h with rfl | h
          · exact .inl (.inr ⟨_, (take_rows (H g' List.mem_cons_self)).mpr ⟨h', q, rfl⟩, e⟩)
          · exact .inr ⟨g', h, h', q, e⟩
  rw [key _ _ fun _ h => h]
  simp [isDif]
theorem difKv_nodup {m : Nat} {rows : List (List Int)} : ((difKv m rows).map (·.1)).Nodup := by
  rw [difKv_eq]
  have key : ∀ (gs : List Int) (acc : List (List Int × Bool)), (acc.map (·.1)).Nodup → ((gs.foldl (fun acc g => difStep m rows acc (g, rowG rows g)) acc).map (·.1)).Nodup := by
    intro gs
    induction gs with
    | nil => intro acc h; exact h
    | cons g gs ih => intro acc h; exact ih _ (putFold_nodup (fun two => difM m (rowG rows g) two) _ _ h)
  exact key _ _ List.nodup_nil
theorem isDif_set {m : Nat} {rows : List (List Int)} {d : List Int} (h : isDif m rows d) : setB d m = true := by
  obtain ⟨_, _, _, _, rfl⟩ := h
  exact dif_set
theorem len_pos {α : Type} {l : List α} : (decide (0 < (l.length : Int)) = true) ↔ l ≠ [] := by
  rw [decide_eq_true_eq]
  cases l with
  | nil => simp
  | cons a l => simp
theorem difL_mem {m : Nat} {rows : List (List Int)} {d : List Int} : d ∈ difL m rows ↔ isDif m rows d ∧ d ≠ [] := by
  unfold difL
  rw [(srt_perm _ _).mem_iff, List.mem_filter, difKv_key, len_pos]
/-- the law's list of differences -/
def lawDif (m : Nat) (rows : List (List Int)) : List (List Int) := (rg 0 rows.length).flatMap fun g => (rg 0 g.toNat).map fun h => difM m (rowG rows g) (rowG rows h)
theorem lawDif_mem {m : Nat} {rows : List (List Int)} {d : List Int} : d ∈ lawDif m rows ↔ isDif m rows d := by
  unfold lawDif isDif
  rw [List.mem_flatMap]
  constructor
  · rintro ⟨g, hg, h⟩
    obtain ⟨x, hx, e⟩ := List.mem_map.mp h
    exact ⟨g, hg, x, hx, e.symm⟩
  · rintro ⟨g, hg, x, hx, e⟩
    exact ⟨g, hg, List.mem_map.mpr ⟨x, hx, e.symm⟩⟩
theorem difL_law (m : Nat) (rows : List (List Int)) : ((srt (ltPr ltI ltS) ((sortU ltRow (lawDif m rows)).map szk)).filter fun q => decide (0 < q.1)).map (fun q => q.2) = difL m rows := by
  rw [sized_ne]
  unfold difL
  have h1 : srt ltZ (sortU ltRow (lawDif m rows)) = (subs m).filter fun x => decide (x ∈ sortU ltRow (lawDif m rows)) := srt_subs (sortUq_nodup stoRow _) fun x => by
    rw [decide_eq_true_eq, sortUq_mem, lawDif_mem]
    exact ⟨fun h => ⟨isDif_set h, h⟩, fun h => h.2⟩
  have h2 : srt ltZ (((difKv m rows).map (·.1)).filter fun own => decide (0 < (own.length : Int))) = (subs m).filter fun x => decide (0 < (x.length : Int)) && decide (x ∈ sortU ltRow (lawDif m rows)) := srt_subs (difKv_nodup.filter _) fun x => by
    rw [List.mem_filter, difKv_key, Bool.and_eq_true, decide_eq_true_eq (p := x ∈ sortU ltRow (lawDif m rows)), sortUq_mem, lawDif_mem]
    exact ⟨fun h => ⟨isDif_set h.1, h.2, h.1⟩, fun h => ⟨h.2.2, h.2.1⟩⟩
  rw [h1, h2, List.filter_filter]
/-! what hits all differences tells all apart -/
theorem hit_iff {m : Nat} {rows : List (List Int)} {own : List Int} (ho : setB own m = true) : hitB m rows own = true ↔ classes own rows = classes (rg 0 m) rows := by
  have hin : ∀ x ∈ own, x ∈ rg 0 m := fun x hx => rg_mem.mpr ((setB_iff.mp ho).1 x hx)
  unfold hitB
  rw [List.all_eq_true, cls_eq_iff]
  constructor
  · intro H
    have key : ∀ g ∈ rg 0 rows.length, ∀ h ∈ rg 0 g.toNat, metL own (rowG rows h) = metL own (rowG rows g) → metL (rg 0 m) (rowG rows h) = metL (rg 0 m) (rowG rows g) := by
      intro g hg h hh e
      rw [met_eq] at *
      intro x hx
      by_cases hc : (x ∈ rowG rows h ↔ x ∈ rowG rows g)
      · exact hc
      · exfalso
        have hd : x ∈ difM m (rowG rows g) (rowG rows h) := dif_mem.mpr ⟨hx, fun q => hc q.symm⟩
        have hl : difM m (rowG rows g) (rowG rows h) ∈ difL m rows := difL_mem.mpr ⟨⟨g, hg, h, hh, rfl⟩, List.ne_nil_of_mem hd⟩
        have := H _ hl
        rw [pos_any, List.any_eq_true] at this
        obtain ⟨y, hy, hy2⟩ := this
        exact (dif_mem.mp hy).2 (e y (of_decide_eq_true hy2)).symm
    intro g hg h hh
    constructor
    · intro e
      obtain ⟨g1, g2⟩ := rg_mem.mp hg
      obtain ⟨h1, h2⟩ := rg_mem.mp hh
      rcases Int.lt_trichotomy h g with q | q | q
      · exact key g hg h (rg_mem.mpr ⟨h1, by omega⟩) e
      · rw [q]
      · exact (key h hh g (rg_mem.mpr ⟨g1, by omega⟩) e.symm).symm
    · intro e
      rw [met_eq] at *
      exact fun x hx => e x (hin x hx)
  · intro H d hd
    obtain ⟨⟨g, hg, h, hh, rfl⟩, hne⟩ := difL_mem.mp hd
    obtain ⟨x, hx⟩ := List.exists_mem_of_ne_nil _ hne
    rw [pos_any]
    cases e : (difM m (rowG rows g) (rowG rows h)).any fun x => decide (x ∈ own) with
    | true => rfl
    | false =>
      exfalso
      rw [List.any_eq_false] at e
      have hh' : h ∈ rg 0 rows.length := by
        obtain ⟨g1, g2⟩ := rg_mem.mp hg
        obtain ⟨h1, h2⟩ := rg_mem.mp hh
        exact rg_mem.mpr ⟨h1, by omega⟩
      have h1 : metL own (rowG rows h) = metL own (rowG rows g) := by
        rw [met_eq]
        intro y hy
        by_cases hc : (y ∈ rowG rows h ↔ y ∈ rowG rows g)
        · exact hc
        · exact absurd (decide_eq_true hy) (e y (dif_mem.mpr ⟨hin y hy, fun q => hc q.symm⟩))
      have h2 := met_eq.mp ((H g hg h hh').mp h1)
      exact (dif_mem.mp hx).2 (h2 x (dif_mem.mp hx).1).symm
/-- the law's sets that tell all apart -/
def fullB (m : Nat) (rows : List (List Int)) (own : List Int) : Bool := decide (classes own rows = classes (rg 0 m) rows)
def fullL (m : Nat) (rows : List (List Int)) : List (List Int) := (subs m).filter (fullB m rows)
theorem full_hit (m : Nat) (rows : List (List Int)) : fullL m rows = (subs m).filter (hitB m rows) := by
  refine List.filter_congr fun own ho => ?_
  unfold fullB
  rw [Bool.eq_iff_iff, decide_eq_true_eq]
  exact (hit_iff (subs_mem.mp ho)).symm
theorem enough_law (m : Nat) (rows : List (List Int)) : enoughL m rows = leastOf (fullL m rows) := by
  unfold enoughL
  rw [min_subs, full_hit]
theorem full_mem {m : Nat} {rows : List (List Int)} {own : List Int} (ho : own ∈ subs m) : ((difL m rows).all fun row => row.any fun x => decide (x ∈ own)) = decide (own ∈ fullL m rows) := by
  rw [full_hit, Bool.eq_iff_iff, decide_eq_true_eq, List.mem_filter]
  have : ((difL m rows).all fun row => row.any fun x => decide (x ∈ own)) = hitB m rows own := by
    unfold hitB
    congr 1
    funext row
    exact (pos_any own row).symm
  rw [this]
  exact ⟨fun h => ⟨ho, h⟩, fun h => h.2⟩
/-! the core -/
theorem headD_len1 {own : List Int} (h : decide ((own.length : Int) = 1) = true) : own = [own.headD 0] := by
  match own, h with
  | [x], _ => rfl
  | [], h => exact absurd h (by decide)
  | x :: y :: l, h => rw [decide_eq_true_eq] at h; simp at h; try omega
theorem core_mem {m : Nat} {rows : List (List Int)} {x : Int} (hx : x ∈ rg 0 m) : [x] ∈ difL m rows ↔ ∀ own ∈ enoughL m rows, x ∈ own := by
  constructor
  · intro h own ho
    have := (minStep_mem _ own ho).2
    unfold hitB at this
    have := List.all_eq_true.mp this _ h
    rw [pos_any] at this
    simpa using this
  · intro H
    apply Classical.byContradiction
    intro hn
    have hs : setB ((rg 0 m).filter fun y => !decide (y = x)) m = true := sub_set List.filter_sublist
    have hq : hitB m rows ((rg 0 m).filter fun y => !decide (y = x)) = true := by
      unfold hitB
      rw [List.all_eq_true]
      intro d hd
      rw [pos_any, List.any_eq_true]
      obtain ⟨h1, h2⟩ := difL_mem.mp hd
      have hds := isDif_set h1
      apply Classical.byContradiction
      intro hc
      have hall : ∀ y ∈ d, y = x := fun y hy => by
        apply Classical.byContradiction
        intro q
        exact hc ⟨y, hy, decide_eq_true (List.mem_filter.mpr ⟨rg_mem.mpr ((setB_iff.mp hds).1 y hy), by simp [q]⟩)⟩
      have : d = [x] := by
        have hp := (setB_iff.mp hds).2
        match d, h2, hall, hp with
        | [y], _, hall, _ => rw [hall y List.mem_cons_self]
        | y :: z :: l, _, hall, hp =>
          have e1 := hall y List.mem_cons_self
          have e2 := hall z (List.mem_cons_of_mem _ List.mem_cons_self)
          have := (List.pairwise_cons.mp hp).1 z List.mem_cons_self
          omega
      rw [this] at hd
      exact hn hd
    obtain ⟨r, hr, hin⟩ := minStep_cov (subs m) _ (subs_mem.mpr hs) hq
    have h1 := H r hr
    have h2 := inL_iff.mp hin x h1
    have := (List.mem_filter.mp h2).2
    simp at this
theorem core_law (m : Nat) (rows : List (List Int)) : coreD m rows = (rg 0 m).filter fun x => (leastOf (fullL m rows)).all fun own => decide (x ∈ own) := by
  unfold coreD
  refine srt_filter ?_ fun x => ?_
  · have hn : (difL m rows).Nodup := by
      unfold difL
      exact (srt_perm _ _).nodup_iff.mpr (difKv_nodup.filter _)
    refine List.Pairwise.map _ (fun a b h => h) ?_
    refine List.Pairwise.imp_of_mem (fun {a b} ha hb h e => ?_) (hn.filter _)
    rw [headD_len1 (List.mem_filter.mp ha).2, headD_len1 (List.mem_filter.mp hb).2, e] at h
    exact h rfl
  · rw [← enough_law, List.all_eq_true, List.mem_map]
    constructor
    · rintro ⟨own, ho, rfl⟩
      obtain ⟨h1, h2⟩ := List.mem_filter.mp ho
      have e := headD_len1 h2
      have hx : own.headD 0 ∈ rg 0 m := rg_mem.mpr ((setB_iff.mp (isDif_set (difL_mem.mp h1).1)).1 _ (by rw [e]; exact List.mem_cons_self))
      rw [e] at h1
      exact ⟨hx, fun o ho' => decide_eq_true ((core_mem hx).mp h1 o ho')⟩
    · rintro ⟨hx, h⟩
      refine ⟨[x], List.mem_filter.mpr ⟨(core_mem hx).mpr fun o ho => of_decide_eq_true (h o ho), rfl⟩, rfl⟩
theorem enough_for_law (m : Nat) (rows : List (List Int)) (goal : List Int) : enoughForL m rows goal = leastOf ((subs m).filter (goodB m rows goal)) := by
  unfold enoughForL
  rw [min_subs]
end Pu

/-! ======== Y58a ======== -/
namespace Pu
open PySem
local macro_rules | `(tactic| and_intros) => `(tactic| repeat' first
  | exact nt0 | exact nt1 | exact nt2 | exact Nat.zero_lt_two | exact Nat.one_lt_two
  | exact e_var ⟨rfl⟩ Nat.zero_lt_two | exact e_var ⟨rfl⟩ Nat.one_lt_two | exact e_varb ⟨rfl⟩
  | apply e_int | apply e_bl | apply e_non | apply e_str | apply e_gfn | apply e_gint
  | exact es_nil | apply es_cons | apply e_tup | apply e_lst | apply e_bin | apply e_neg | apply e_cmp | apply e_chain | apply e_isN
  | apply e_and | apply e_or | apply e_not | apply e_ite | apply e_call | apply e_blt | apply e_isin | apply e_fld | apply e_idx
  | apply e_lcid | apply e_lcm | apply e_lcf | apply e_sortk
  | exact cl_inst | exact fd_inst | exact ix0 | exact ix1 | exact ix2
  | apply ew | apply cw
  | apply e_tupS | apply e_lstS | apply sr_rng1 | apply sr_rng2 | apply sr_enum | apply sr_zipt | apply sr_zipl | exact sr_dk ⟨rfl⟩ | apply sr_ex
  | exact tb_nm | exact tb_pr
  | exact can_int | exact can_bl | exact can_tp | exact can_ls | exact can_id | apply can_pr | apply can_tp1
  | exact e_no | exact lk rfl
  | exact b_addi | exact b_subi | apply b_addt | apply b_addl | apply b_addt1
  | exact c_lti | exact c_lei | exact c_gti | exact c_gei | exact c_eqi | exact c_nei | exact c_eqb | exact c_neb
  | exact c_eqt (by decide) | exact c_net (by decide) | exact c_eql (by decide) | exact c_nel (by decide)
  | exact c_int rfl (by decide) | exact c_inl rfl (by decide) | exact c_nint rfl (by decide) | exact c_ninl rfl (by decide)
  | exact bl_all | exact bl_any | exact bl_sum | exact bl_lent | exact bl_lenl | exact bl_lent' | exact bl_lenl' | exact bl_tupl | exact bl_tupt | exact bl_lstl | exact bl_lstt | exact bl_int
  | exact bl_sorted sb_int (by decide) | exact bl_sorted sb_pr (by decide) | exact bl_sorted sb_ls (by decide)
  | exact sb_int | exact sb_pr | exact sb_ls
  | apply s_ret | apply s_asg | apply s_asgb | apply s_asgt | apply s_par | exact s_nil | (refine s_frz ⟨rfl⟩ ?_) | (refine s_frzd ⟨rfl⟩ ?_) | apply s_expr
  | assumption
  | rfl
  | omega
  | intro _)
/-! k58: the law, its body -/
theorem dec_irr {p : Prop} {i j : Decidable p} : @decide p i = @decide p j := by congr
theorem b_addL {a b : List D} (h : a.length + b.length ≤ 16777216) : Bn .add (.lst a) (.lst b) (.lst (a ++ b)) := ⟨by
  show (if a.length + b.length ≤ sizeLine then some (D.lst (a ++ b)) else none) = _
  rw [sizeLine_eq, if_pos h]⟩
theorem e_same {n m : Nat} {ρ : Rho} {S : Sx} {a b : E} {d : D} (h1 : Ev (gAt prog.tab n) a 0 ρ S d) (h2 : Ev (gAt prog.tab n) b 0 ρ S d) (h : Sm n d) (hm : m < 2) : Ev (gAt prog.tab n) (.call k__law_same (.cons a (.cons b .nil))) m ρ S (.bl true) :=
  e_call (ds := [d, d]) (es_cons h1 (es_cons h2 es_nil)) ⟨h.eq S⟩ hm
theorem e_toldv {n m : Nat} {ρ : Rho} {S : Sx} {a b : E} {k : Nat} {given : List D} {r : D} (h1 : Ev (gAt prog.tab n) a 0 ρ S (.fn k)) (h2 : Ev (gAt prog.tab n) b 0 ρ S (.tup given)) (h : run prog.tab n false k__law_told [.fn k, .tup given] S = .ok r S) (hm : m < 2) : Ev (gAt prog.tab n) (.call k__law_told (.cons a (.cons b .nil))) m ρ S r :=
  e_call (ds := [.fn k, .tup given]) (es_cons h1 (es_cons h2 es_nil)) ⟨h⟩ hm
theorem e_sameT {n m : Nat} {ρ : Rho} {S : Sx} {a b c : E} {k : Nat} {given : List D} {due : D} (h1 : Ev (gAt prog.tab (n + 2)) a 0 ρ S (.fn k)) (h2 : Ev (gAt prog.tab (n + 2)) b 0 ρ S (.tup given)) (h3 : Ev (gAt prog.tab (n + 2)) c 0 ρ S due)
    (h : run prog.tab (n + 2) false k__law_told [.fn k, .tup given] S = .ok (.tup [.str "told", due]) S) (hs : Sm (n + 1) due) (hm : m < 2) : Ev (gAt prog.tab (n + 2)) (.call k__law_same (.cons (.call k__law_told (.cons a (.cons b .nil))) (.cons (.tup (.cons (.str "told") (.cons c .nil))) .nil))) m ρ S (.bl true) :=
  e_same (d := .tup [.str "told", due]) (e_toldv h1 h2 h (by decide)) (e_tup (es_cons (e_str (by decide)) (es_cons h3 es_nil)) (by decide)) (sm_told hs) hm
theorem toldOk {r : R D} {d : D} {S : Sx} (h : r = .ok d S) : toldR r = .ok (.tup [.str "told", d]) S := by rw [h]
/-- what is drawn for this law -/
structure Dr (tn tm : Int) (rows : List (List Int)) (marks things goal : List Int) : Prop where
  n0 : 0 ≤ tn
  n6 : tn ≤ 6
  m0 : 0 ≤ tm
  m4 : tm ≤ 4
  len : (rows.length : Int) = tn
  rok : ∀ r ∈ rows, setB r tm = true
  ms : setB marks tm = true
  th : setB things tn = true
  go : setB goal tm = true
section
variable {tn tm : Int} {rows : List (List Int)} {marks things goal : List Int}
theorem Dr.r8 (h : Dr tn tm rows marks things goal) : rows.length ≤ 8 := by have := h.len; have := h.n6; omega
theorem Dr.r6 (h : Dr tn tm rows marks things goal) : rows.length ≤ 6 := by have := h.len; have := h.n6; omega
theorem Dr.cls (h : Dr tn tm rows marks things goal) (own : List Int) : ∀ c ∈ classes own rows, setB c tn = true := fun c hc => h.len ▸ cls_set c hc
theorem sm_sets {n : Nat} {L : List (List Int)} {B : Nat} (hL : L.length ≤ 16777216) (h : ∀ c ∈ L, c.length ≤ B) (hB : B ≤ 16777216) : Sm (n + 4) (tp iT L) := sm_tup (by rw [List.length_map]; exact hL) fun d hd => by
  obtain ⟨c, hc, rfl⟩ := List.mem_map.mp hd
  exact sm_ints (by have := h c hc; omega)
theorem sm_setl {n : Nat} {L : List (List Int)} {B : Nat} (hL : L.length ≤ 16777216) (h : ∀ c ∈ L, c.length ≤ B) (hB : B ≤ 16777216) : Sm (n + 5) (.lst (L.map iT)) := sm_lst (sm_sets hL h hB)
theorem set_len {l : List Int} {m : Int} (h : setB l m = true) (h0 : 0 ≤ m) : l.length ≤ m.toNat := by
  rw [← set_filter h]
  exact Nat.le_trans (List.length_filter_le _ _) (by rw [rg_len]; exact Nat.le_refl _)
theorem share_ins (a b : Int) : ∃ x y, shareD a b = rD x y := by
  unfold shareD
  cases decide (0 < b) with
  | true => exact ⟨_, _, rfl⟩
  | false => exact ⟨_, _, rfl⟩
theorem e_eqR {n m : Nat} {ρ : Rho} {S : Sx} {a b : E} {x y : Int} (h1 : Ev (gAt prog.tab (n + 1)) a 0 ρ S (shareD x y)) (h2 : Ev (gAt prog.tab (n + 1)) b 0 ρ S (shareD x y)) (hm : m < 2) : Ev (gAt prog.tab (n + 1)) (.eqi false a b) m ρ S (.bl true) := by
  obtain ⟨p, q, e⟩ := share_ins x y
  rw [e] at h1 h2
  exact e_eqi (T := prog.tab) (q := true) (neg := false) h1 h2 rfl rfl cl_ratio_eq hm
end
theorem e_leastOf {n m v w s : Nat} {ρ : Rho} {S : Sx} {L : List (List Int)} (hs : Lk ρ s (.v (.lst (L.map iT)))) (hv' : Nat.ble (v + 1) ρ.length = true) (hw' : Nat.ble (w + 1) ρ.length = true) (h1 : v ≠ w) (h2 : v ≠ s) (h3 : w ≠ s) :
    Ev (gAt prog.tab (n + 1)) (.lc (.var v) (.nm v) (.ex (.var s)) (.not (.blt .any (.cons (.lc (.and (.cmp .ne (.var w) (.var v)) (.call k__law_within (.cons (.var w) (.cons (.var v) .nil)))) (.nm w) (.ex (.var s)) .no [w]) .nil))) [v]) m ρ S (.lst ((leastOf L).map iT)) := by
  have hv : v < ρ.length := Nat.le_of_ble_eq_true hv'
  have hw : w < ρ.length := Nat.le_of_ble_eq_true hw'
  refine e_lcid (i := iT) (l := L) (c := fun own => !L.any fun low => !decide (low = own) && inL low own) (sr_ex (e_var hs (by decide)) rfl) tb_nm (fun own _ => ?_) (fun a => Lk.at (by show v < (ρ.set v .un).length; rw [List.length_set]; exact hv))
  have q1 : Lk ((wipe ρ [v]).set v (.v (iT own))) s (.v (.lst (L.map iT))) := (hs.ne h2).ne h2
  refine ew (e_not (e_blt (es_cons (e_lcm (i := iT) (l := L) (j := D.bl) (f := fun low => !decide (low = own) && inL low own) (d := fun low => .bl (!decide (low = own) && inL low own)) (sr_ex (e_var q1 (by decide)) rfl) tb_nm (fun low _ => ?_) can_bl) es_nil) bl_any nt0) (by decide)) rfl
  have q2 : Lk ((wipe ((wipe ρ [v]).set v (.v (iT own))) [w]).set w (.v (iT low))) w (.v (iT low)) := Lk.at (by show w < (List.set (List.set (List.set ρ v .un) v _) w .un).length; simp only [List.length_set]; exact hw)
  have q3 : Lk ((wipe ((wipe ρ [v]).set v (.v (iT own))) [w]).set w (.v (iT low))) v (.v (iT own)) := by
    refine (Lk.ne (Lk.ne (Lk.at ?_) (fun e => h1 e.symm)) (fun e => h1 e.symm))
    show v < (ρ.set v .un).length
    rw [List.length_set]; exact hv
  exact ew (e_and (e_cmp (x := iT low) (y := iT own) (e_var q2 (by decide)) (e_var q3 (by decide)) (c_net (by decide)) (by decide)) (fun _ => ew (e_call (ds := [iT low, iT own]) (es_cons (e_var q2 (by decide)) (es_cons (e_var q3 (by decide)) es_nil)) cl_inst (by decide)) rfl) (by decide)) rfl
/-- one thing that is asked: what is due is told -/
structure As (n : Nat) (S : Sx) (d : D) : Prop where
  ex : ∃ k given due, d = .tup [.fn k, .tup given, due] ∧ run prog.tab (n + 2) false k__law_told [.fn k, .tup given] S = .ok (.tup [.str "told", due]) S ∧ Sm (n + 1) due
theorem as_mk {n k : Nat} {S : Sx} {given : List D} {due : D} (h : run prog.tab (n + 2) false k__law_told [.fn k, .tup given] S = .ok (.tup [.str "told", due]) S) (hs : Sm (n + 1) due) : As n S (.tup [.fn k, .tup given, due]) := ⟨_, _, _, rfl, h, hs⟩
theorem wipe3 {ρ : Rho} {a b c : Nat} {x y z : Sl} (ha : Lk ρ a .un) (hb : Lk ρ b .un) (hc : Lk ρ c .un) : wipe (((ρ.set a x).set b y).set c z) [a, b, c] = ρ := by
  show (((((ρ.set a x).set b y).set c z).set c .un).set b .un).set a .un = ρ
  apply List.ext_getElem?
  intro j
  have e : ∀ {i : Nat}, Lk ρ i .un → i < ρ.length := fun {i} h => by
    by_cases q : i < ρ.length
    · exact q
    · have := h.eq; rw [List.getElem?_eq_none (by omega)] at this; cases this
  simp only [List.getElem?_set, List.length_set]
  by_cases j1 : a = j
  · subst j1; rw [if_pos rfl, if_pos (e ha)]; exact ha.eq.symm
  · rw [if_neg j1]
    by_cases j2 : b = j
    · subst j2; rw [if_pos rfl, if_pos (e hb)]; exact hb.eq.symm
    · rw [if_neg j2]
      by_cases j3 : c = j
      · subst j3; rw [if_pos rfl, if_pos (e hc)]; exact hc.eq.symm
      · simp only [if_neg j1, if_neg j2, if_neg j3]
theorem s_asked {n a b c : Nat} {src : Src} {asked : List D} {ρ : Rho} {S : Sx} {ss : Ss} {r : RS} (hs : Sr (gAt prog.tab (n + 2)) src 0 ρ S asked) (ha : Lk ρ a .un) (hb : Lk ρ b .un) (hc : Lk ρ c .un) (hab : a ≠ b) (hac : a ≠ c) (hbc : b ≠ c) (h : ∀ d ∈ asked, As n S d) (h2 : Sv (gAt prog.tab (n + 2)) ss ρ S r) :
    Sv (gAt prog.tab (n + 2)) (.cons (.for_ (.tp [a, b, c]) src (.cons (.ite (.not (.call k__law_same (.cons (.call k__law_told (.cons (.var a) (.cons (.var b) .nil))) (.cons (.tup (.cons (.str "told") (.cons (.var c) .nil))) .nil)))) (.cons (.ret (.bl false)) .nil) .nil) .nil) [a, b, c]) ss) ρ S r := by
  have len : ∀ {i : Nat}, Lk ρ i .un → i < ρ.length := fun {i} h => by
    by_cases q : i < ρ.length
    · exact q
    · have := h.eq; rw [List.getElem?_eq_none (by omega)] at this; cases this
  refine s_forR (i := fun d : D => d) (l := asked) (step := fun u _ => u) (fun ρ (_ : Unit) (z : Sl × Sl × Sl) => ((ρ.set a z.1).set b z.2.1).set c z.2.2) (fun _ _ => True) (s0 := ()) (.un, .un, .un) (by rw [List.map_id']; exact hs) ?_ trivial ?_ (fun z => ?_) (fun _ => ?_)
  · show ρ = ((ρ.set a .un).set b .un).set c .un
    rw [set_self ha, set_self hb, set_self hc]
  · intro pre d post _ e _ z
    obtain ⟨k, given, due, rfl, hr, hsm⟩ := (h d (e ▸ List.mem_append_right _ List.mem_cons_self)).ex
    generalize hσ : ((ρ.set a z.1).set b z.2.1).set c z.2.2 = σ
    have ls : σ.length = ρ.length := by rw [← hσ]; simp only [List.length_set]
    refine ⟨(.v (.fn k), .v (.tup given), .v due), tu_tp3 (s_iteF (ev_to (e_not (p := true) (e_sameT (n := n) (k := k) (given := given) (due := due) (e_var (d := .fn k) ?_ (by decide)) (e_var (d := .tup given) ?_ (by decide)) (e_var (d := due) ?_ (by decide)) hr hsm (by decide)) (by decide)) rfl) (s_nil' ?_)), trivial⟩
    · exact ((Lk.at (by rw [ls]; exact len ha)).ne hab.symm).ne hac.symm
    · exact (Lk.at (by rw [List.length_set, ls]; exact len hb)).ne hbc.symm
    · exact Lk.at (by rw [List.length_set, List.length_set, ls]; exact len hc)
    · rw [← hσ]
      apply List.ext_getElem?
      intro j
      simp only [List.getElem?_set, List.length_set]
      by_cases j1 : a = j <;> by_cases j2 : b = j <;> by_cases j3 : c = j <;> simp [j1, j2, j3]
  · rw [wipe3 ha hb hc, wipe3 ha hb hc]
  · rw [wipe3 ha hb hc]; exact h2
end Pu

/-! ======== Y58b ======== -/
namespace Pu
open PySem
local macro_rules | `(tactic| and_intros) => `(tactic| repeat' first
  | exact nt0 | exact nt1 | exact nt2 | exact Nat.zero_lt_two | exact Nat.one_lt_two
  | exact e_var ⟨rfl⟩ Nat.zero_lt_two | exact e_var ⟨rfl⟩ Nat.one_lt_two | exact e_varb ⟨rfl⟩
  | apply e_int | apply e_bl | apply e_non | apply e_str | apply e_gfn | apply e_gint
  | exact es_nil | apply es_cons | apply e_tup | apply e_lst | apply e_bin | apply e_neg | apply e_cmp | apply e_chain | apply e_isN
  | apply e_and | apply e_or | apply e_not | apply e_ite | apply e_call | apply e_blt | apply e_isin | apply e_fld | apply e_idx
  | apply e_lcid | apply e_lcm | apply e_lcf | apply e_sortk
  | exact cl_inst | exact fd_inst | exact ix0 | exact ix1 | exact ix2
  | apply ew | apply cw
  | apply e_tupS | apply e_lstS | apply sr_rng1 | apply sr_rng2 | apply sr_enum | apply sr_zipt | apply sr_zipl | exact sr_dk ⟨rfl⟩ | apply sr_ex
  | exact tb_nm | exact tb_pr
  | exact can_int | exact can_bl | exact can_tp | exact can_ls | exact can_id | apply can_pr | apply can_tp1
  | exact e_no | exact lk rfl
  | exact b_addi | exact b_subi | apply b_addt | apply b_addl | apply b_addt1
  | exact c_lti | exact c_lei | exact c_gti | exact c_gei | exact c_eqi | exact c_nei | exact c_eqb | exact c_neb
  | exact c_eqt (by decide) | exact c_net (by decide) | exact c_eql (by decide) | exact c_nel (by decide)
  | exact c_int rfl (by decide) | exact c_inl rfl (by decide) | exact c_nint rfl (by decide) | exact c_ninl rfl (by decide)
  | exact bl_all | exact bl_any | exact bl_sum | exact bl_lent | exact bl_lenl | exact bl_lent' | exact bl_lenl' | exact bl_tupl | exact bl_tupt | exact bl_lstl | exact bl_lstt | exact bl_int
  | exact bl_sorted sb_int (by decide) | exact bl_sorted sb_pr (by decide) | exact bl_sorted sb_ls (by decide)
  | exact sb_int | exact sb_pr | exact sb_ls
  | apply s_ret | apply s_asg | apply s_asgb | apply s_asgt | apply s_par | exact s_nil | (refine s_frz ⟨rfl⟩ ?_) | (refine s_frzd ⟨rfl⟩ ?_) | apply s_expr
  | assumption
  | rfl
  | omega
  | intro _)
/-! k58: the law's last part: bad values -/
def Ss.drop : Nat → Ss → Ss
  | 0, s => s
  | _ + 1, .nil => .nil
  | n + 1, .cons _ s => s.drop n
def badV : List D := [.tup [.int 9], .tup [.int 0, .int 0], .lst [.int 0], .non, .tup [.bl true], .tup [.str "0"]]
theorem bad_set {tm : Int} (h4 : tm ≤ 6) (d : D) (hd : d ∈ badV) (n : Nat) (S : Sx) : run prog.tab (n + 2) false k_is_set [d, .int tm] S = .ok (.bl false) S := by
  simp only [badV, List.mem_cons, List.not_mem_nil, or_false] at hd
  rcases hd with rfl | rfl | rfl | rfl | rfl | rfl
  · exact (cl_is_set (a := [9]) (m := tm)).eq.trans (by congr 2; simp [setB]; omega)
  · exact (cl_is_set (a := [0, 0]) (m := tm)).eq.trans (by congr 2; simp [setB])
  all_goals rfl
theorem cl_mkX {T : Tab} {n k : Nat} {ds : List D} {b : Ss} {ρ : Rho} {S : Sx} {c : Nat} {p : Option D} (he : run T (n + 1) false k ds S = endFn false (b.den (gAt T n) ρ S)) (h : Sv (gAt T n) b ρ S (.exc c p S)) : run T (n + 1) false k ds S = .exc c p S := by rw [he, h.eq]; rfl
theorem sx_exprX {g : G} {ρ : Rho} {S : Sx} {e : E} {ss : Ss} {c : Nat} {p : Option D} (h : e.den g 0 ρ S = .exc c p S) : Sv g (.cons (.expr e) ss) ρ S (.exc c p S) := ⟨by rw [Ss.den, Pu.S.den, h]; rfl⟩
theorem sx_retX {g : G} {ρ : Rho} {S : Sx} {e : E} {ss : Ss} {c : Nat} {p : Option D} (h : e.den g 0 ρ S = .exc c p S) : Sv g (.cons (.ret e) ss) ρ S (.exc c p S) := ⟨by rw [Ss.den, Pu.S.den, h]; rfl⟩
theorem sx_asgX {g : G} {ρ : Rho} {S : Sx} {i : Nat} {e : E} {ss : Ss} {c : Nat} {p : Option D} (h : e.den g 0 ρ S = .exc c p S) : Sv g (.cons (.asg (.nm i) e) ss) ρ S (.exc c p S) := ⟨by rw [Ss.den, Pu.S.den, h]; rfl⟩
theorem call_exc {T : Tab} {n k : Nat} {m : Nat} {ρ : Rho} {S : Sx} {es : Es} {ds : List D} {c : Nat} {p : Option D} (h1 : Evs (gAt T n) es 0 ρ S ds) (h : run T n false k ds S = .exc c p S) (hm : m < 2) : (E.call k es).den (gAt T n) m ρ S = .exc c p S := by
  rw [E.den, h1.eq]
  show onlyNew (if T.fr k = true then 0 else m) (run T n false k ds S) = _
  rw [h]
  split
  · exact onlyNew_ok (by decide)
  · exact onlyNew_ok hm
theorem cmp_exc {g : G} {c : Cm} {a b : E} {m : Nat} {ρ : Rho} {S : Sx} {k : Nat} {p : Option D} (h : a.den g 1 ρ S = .exc k p S) (hm : m < 2) : (E.cmp c a b).den g m ρ S = .exc k p S := by
  rw [E.den, onlyNew_ok hm, h]; rfl
theorem bad_check {tm : Int} {n : Nat} {d : D} {S : Sx} (h : ∀ n S, run prog.tab (n + 2) false k_is_set [d, .int tm] S = .ok (.bl false) S) : run prog.tab (n + 3) false k_check_set [d, .int tm] S = .exc c_Malformed (some (.str "a set")) S := by
  refine cl_mkX (b := b_check_set) (ρ := [.v d, .v (.int tm)]) rfl ?_
  exact s_iteT (ev_to (e_not (p := false) (e_call (ds := [d, .int tm]) (by and_intros) ⟨h n S⟩ (by decide)) (by decide)) rfl) s_raise
theorem bad_look {tn tm : Int} {rows : List (List Int)} {n : Nat} {d : D} {S : Sx} (h : ∀ n S, run prog.tab (n + 2) false k_is_set [d, .int tm] S = .ok (.bl false) S) : run prog.tab (n + 4) false k_look_classes [tD tn tm rows, d] S = .exc c_Malformed (some (.str "a set")) S :=
  cl_mkX (b := b_look_classes) (ρ := [.v (tD tn tm rows), .v d, .un, .un, .un, .un]) rfl (s_expr (d := .non) (by and_intros) (sx_exprX (call_exc (ds := [d, .int tm]) (by and_intros) (bad_check h) (by decide))))
theorem bad_enough {tn tm : Int} {rows : List (List Int)} {n : Nat} {d : D} {S : Sx} (h : ∀ n S, run prog.tab (n + 2) false k_is_set [d, .int tm] S = .ok (.bl false) S) : run prog.tab (n + 4) false k_enough_for [tD tn tm rows, d] S = .exc c_Malformed (some (.str "a set")) S :=
  cl_mkX (b := b_enough_for) (ρ := [.v (tD tn tm rows), .v d, .un, .un, .un, .un, .un, .un]) rfl (s_expr (d := .non) (by and_intros) (sx_exprX (call_exc (ds := [d, .int tm]) (by and_intros) (bad_check h) (by decide))))
theorem bad_inside {tn tm : Int} {rows : List (List Int)} {n : Nat} {a d : D} {S : Sx} (h : ∀ n S, run prog.tab (n + 2) false k_is_set [d, .int tn] S = .ok (.bl false) S) : run prog.tab (n + 4) false k_inside [tD tn tm rows, a, d] S = .exc c_Malformed (some (.str "a set")) S :=
  cl_mkX (b := b_inside) (ρ := [.v (tD tn tm rows), .v a, .v d, .un, .un]) rfl (s_expr (d := .non) (by and_intros) (sx_exprX (call_exc (ds := [d, .int tn]) (by and_intros) (bad_check h) (by decide))))
theorem bad_outside {tn tm : Int} {rows : List (List Int)} {n : Nat} {a d : D} {S : Sx} (h : ∀ n S, run prog.tab (n + 2) false k_is_set [d, .int tn] S = .ok (.bl false) S) : run prog.tab (n + 4) false k_outside [tD tn tm rows, a, d] S = .exc c_Malformed (some (.str "a set")) S :=
  cl_mkX (b := b_outside) (ρ := [.v (tD tn tm rows), .v a, .v d, .un, .un]) rfl (s_expr (d := .non) (by and_intros) (sx_exprX (call_exc (ds := [d, .int tn]) (by and_intros) (bad_check h) (by decide))))
theorem bad_told {tn tm : Int} {rows : List (List Int)} {n : Nat} {a d : D} {S : Sx} (h : ∀ n S, run prog.tab (n + 2) false k_is_set [d, .int tm] S = .ok (.bl false) S) : run prog.tab (n + 4) false k_told_things [tD tn tm rows, a, d] S = .exc c_Malformed (some (.str "a set")) S :=
  cl_mkX (b := b_told_things) (ρ := [.v (tD tn tm rows), .v a, .v d, .un, .un]) rfl (s_expr (d := .non) (by and_intros) (sx_exprX (call_exc (ds := [d, .int tm]) (by and_intros) (bad_check h) (by decide))))
theorem bad_two {tn tm : Int} (hm : tm ≤ 6) {rows : List (List Int)} {d : D} (hd : d ∈ badV) {S : Sx} : ∀ k ∈ [k_look_classes, k_enough_for], prog.tab.fr k = false ∧ run prog.tab 29 false k [tD tn tm rows, d] S = .exc c_Malformed (some (.str "a set")) S := by
  intro k hk
  simp only [List.mem_cons, List.not_mem_nil, or_false] at hk
  rcases hk with rfl | rfl
  · exact ⟨rfl, bad_look (n := 25) (bad_set hm d hd)⟩
  · exact ⟨rfl, bad_enough (n := 25) (bad_set hm d hd)⟩
theorem bad_six {tn tm : Int} (hn : tn ≤ 6) (hm : tm ≤ 6) {rows : List (List Int)} {a d : D} (hd : d ∈ badV) {S : Sx} : ∀ k ∈ [k_inside, k_outside, k_edge, k_is_sharp, k_sharpness, k_told_things], prog.tab.fr k = false ∧ run prog.tab 29 false k [tD tn tm rows, a, d] S = .exc c_Malformed (some (.str "a set")) S := by
  intro k hk
  simp only [List.mem_cons, List.not_mem_nil, or_false] at hk
  have h := bad_set hn d hd
  rcases hk with rfl | rfl | rfl | rfl | rfl | rfl
  · exact ⟨rfl, bad_inside (n := 25) h⟩
  · exact ⟨rfl, bad_outside (n := 25) h⟩
  · exact ⟨rfl, cl_mkX (b := b_edge) (ρ := [.v (tD tn tm rows), .v a, .v d, .un, .un]) rfl (sx_asgX (call_exc (ds := [tD tn tm rows, a, d]) (by and_intros) (bad_inside (n := 24) h) (by decide)))⟩
  · exact ⟨rfl, cl_mkX (b := b_is_sharp) (ρ := [.v (tD tn tm rows), .v a, .v d]) rfl (sx_retX (cmp_exc (call_exc (ds := [tD tn tm rows, a, d]) (by and_intros) (bad_inside (n := 24) h) (by decide)) (by decide)))⟩
  · exact ⟨rfl, cl_mkX (b := b_sharpness) (ρ := [.v (tD tn tm rows), .v a, .v d, .un]) rfl (sx_asgX (call_exc (ds := [tD tn tm rows, a, d]) (by and_intros) (bad_outside (n := 24) h) (by decide)))⟩
  · exact ⟨rfl, bad_told (n := 25) (bad_set hm d hd)⟩
theorem told_bad {n k : Nat} {ds : List D} {S : Sx} {r : R D} (hr : run prog.tab (n + 1) false k__law_told [.fn k, .tup ds] S = toldR r) (h : r = .exc c_Malformed (some (.str "a set")) S) : Cg prog.tab (n + 1) k__law_told [.fn k, .tup ds] S (.tup [.str "malformed", .non]) := ⟨by rw [hr, h]; rfl⟩
theorem law_z {x9 x10 x11 x12 x13 x14 x15 x20 x22 x23 x24 x25 x26 : Sl} {scr : D} {S : Sx} {tn tm : Int} {rows : List (List Int)} {marks things goal : List Int} (h : Dr tn tm rows marks things goal) : Sv (gAt prog.tab 30) (b_law.drop 32) [.v scr, .v .st, .v (.int tn), .v (.int tm), .v (.lst (rows.map iT)), .v (tD tn tm rows), .v (iT marks), .v (iT things), .v (iT goal), x9, x10, x11, x12, x13, x14, x15, .un, .un, .un, .un, x20, .un, x22, x23, x24, x25, x26, .un, .un, .un, .un, .un, .un] S (.ret false (.bl true) S) := by
  refine s_forR (i := fun d : D => d) (l := badV) (step := fun u _ => u) (fun ρ (_ : Unit) (z : Sl) => ρ.set 27 z) (fun _ _ => True) (s0 := ()) .un (sr_ex (x := .lst badV) (by and_intros) (by rw [List.map_id']; rfl)) rfl trivial ?_ (fun z => rfl) (fun _ => ?_)
  · intro pre d post _ e _ z
    have hd : d ∈ badV := e ▸ List.mem_append_right _ List.mem_cons_self
    refine ⟨.v d, tu_nm ?_, trivial⟩
    refine s_iteF (e_cmp (x := .lst ([k_look_classes, k_enough_for].map fun _ => .str "malformed")) (y := .lst (List.replicate 2 (.str "malformed"))) ?_ (e_bin (x := .lst [.str "malformed"]) (y := .int 2) (by and_intros) (by and_intros) ⟨by rfl⟩ nt1) (c_nself (by decide +kernel)) (by decide)) ?_
    · refine ev_to (e_lcm (i := D.fn) (l := [k_look_classes, k_enough_for]) (d := fun _ => .str "malformed") (j := D.str) (f := fun _ => "malformed") (sr_ex (x := .tup ([k_look_classes, k_enough_for].map D.fn)) (by and_intros) rfl) tb_nm (fun k hk => ?_) ⟨fun _ _ => rfl⟩) rfl
      obtain ⟨hf, hx⟩ := bad_two (tn := tn) (rows := rows) (S := S) (show tm ≤ 6 by have := h.m4; omega) hd k hk
      exact ew (e_idx (x := .tup [.str "malformed", .non]) (y := .int 0) (e_call (ds := [.fn k, .tup [tD tn tm rows, d]]) (by and_intros) (told_bad (told2 (n := 29) hf) hx) (by decide)) (by and_intros) ix0 (by decide)) rfl
    refine s_iteF (e_cmp (x := .lst ([k_inside, k_outside, k_edge, k_is_sharp, k_sharpness, k_told_things].map fun _ => .str "malformed")) (y := .lst (List.replicate 6 (.str "malformed"))) ?_ (e_bin (x := .lst [.str "malformed"]) (y := .int 6) (by and_intros) (by and_intros) ⟨by rfl⟩ nt1) (c_nself (by decide +kernel)) (by decide)) s_nil
    · refine ev_to (e_lcm (i := D.fn) (l := [k_inside, k_outside, k_edge, k_is_sharp, k_sharpness, k_told_things]) (d := fun _ => .str "malformed") (j := D.str) (f := fun _ => "malformed") (sr_ex (x := .tup ([k_inside, k_outside, k_edge, k_is_sharp, k_sharpness, k_told_things].map D.fn)) (by and_intros) rfl) tb_nm (fun k hk => ?_) ⟨fun _ _ => rfl⟩) rfl
      obtain ⟨hf, hx⟩ := bad_six (rows := rows) (a := iT marks) (S := S) h.n6 (show tm ≤ 6 by have := h.m4; omega) hd k hk
      exact ew (e_idx (x := .tup [.str "malformed", .non]) (y := .int 0) (e_call (ds := [.fn k, .tup [tD tn tm rows, iT marks, d]]) (by and_intros) (told_bad (told3 (n := 29) hf) hx) (by decide)) (by and_intros) ix0 (by decide)) rfl
  refine s_ret (e_cmp (x := .lst ([k_difference_rows, k_enough_sets, k_core_of].map fun _ => .str "malformed")) (y := .lst (List.replicate 3 (.str "malformed"))) ?_ (e_bin (x := .lst [.str "malformed"]) (y := .int 3) (by and_intros) (by and_intros) ⟨by rfl⟩ nt1) (c_self (by decide +kernel)) (by decide))
  refine ev_to (e_lcm (i := D.fn) (l := [k_difference_rows, k_enough_sets, k_core_of]) (d := fun _ => .str "malformed") (j := D.str) (f := fun _ => "malformed") (sr_ex (x := .tup ([k_difference_rows, k_enough_sets, k_core_of].map D.fn)) (by and_intros) rfl) tb_nm (fun k hk => ?_) ⟨fun _ _ => rfl⟩) rfl
  have hx : prog.tab.fr k = false ∧ ∃ p, run prog.tab 29 false k [.non] S = .exc c_Malformed p S := by
    simp only [List.mem_cons, List.not_mem_nil, or_false] at hk
    rcases hk with rfl | rfl | rfl
    · exact ⟨rfl, _, rfl⟩
    · exact ⟨rfl, _, rfl⟩
    · exact ⟨rfl, _, rfl⟩
  obtain ⟨hf, p, hx⟩ := hx
  exact ew (e_idx (x := .tup [.str "malformed", .non]) (y := .int 0) (e_call (ds := [.fn k, .tup [.non]]) (by and_intros) ⟨by rw [told1 (n := 29) hf, hx]; rfl⟩ (by decide)) (by and_intros) ix0 (by decide)) rfl
end Pu

/-! ======== Y58c ======== -/
namespace Pu
open PySem
local macro_rules | `(tactic| and_intros) => `(tactic| repeat' first
  | exact nt0 | exact nt1 | exact nt2 | exact Nat.zero_lt_two | exact Nat.one_lt_two
  | exact e_var ⟨rfl⟩ Nat.zero_lt_two | exact e_var ⟨rfl⟩ Nat.one_lt_two | exact e_varb ⟨rfl⟩
  | apply e_int | apply e_bl | apply e_non | apply e_str | apply e_gfn | apply e_gint
  | exact es_nil | apply es_cons | apply e_tup | apply e_lst | apply e_bin | apply e_neg | apply e_cmp | apply e_chain | apply e_isN
  | apply e_and | apply e_or | apply e_not | apply e_ite | apply e_call | apply e_blt | apply e_isin | apply e_fld | apply e_idx
  | apply e_lcid | apply e_lcm | apply e_lcf | apply e_sortk
  | exact cl_inst | exact fd_inst | exact ix0 | exact ix1 | exact ix2
  | apply ew | apply cw
  | apply e_tupS | apply e_lstS | apply sr_rng1 | apply sr_rng2 | apply sr_enum | apply sr_zipt | apply sr_zipl | exact sr_dk ⟨rfl⟩ | apply sr_ex
  | exact tb_nm | exact tb_pr
  | exact can_int | exact can_bl | exact can_tp | exact can_ls | exact can_id | apply can_pr | apply can_tp1
  | exact e_no | exact lk rfl
  | exact b_addi | exact b_subi | apply b_addt | apply b_addl | apply b_addt1
  | exact c_lti | exact c_lei | exact c_gti | exact c_gei | exact c_eqi | exact c_nei | exact c_eqb | exact c_neb
  | exact c_eqt (by decide) | exact c_net (by decide) | exact c_eql (by decide) | exact c_nel (by decide)
  | exact c_int rfl (by decide) | exact c_inl rfl (by decide) | exact c_nint rfl (by decide) | exact c_ninl rfl (by decide)
  | exact bl_all | exact bl_any | exact bl_sum | exact bl_lent | exact bl_lenl | exact bl_lent' | exact bl_lenl' | exact bl_tupl | exact bl_tupt | exact bl_lstl | exact bl_lstt | exact bl_int
  | exact bl_sorted sb_int (by decide) | exact bl_sorted sb_pr (by decide) | exact bl_sorted sb_ls (by decide)
  | exact sb_int | exact sb_pr | exact sb_ls
  | apply s_ret | apply s_asg | apply s_asgb | apply s_asgt | apply s_par | exact s_nil | (refine s_frz ⟨rfl⟩ ?_) | (refine s_frzd ⟨rfl⟩ ?_) | apply s_expr
  | assumption
  | rfl
  | omega
  | intro _)
/-! k58: the law's middle part -/
theorem lawDif_len {m : Nat} {rows : List (List Int)} (h : rows.length ≤ 6) : (lawDif m rows).length < 64 := by
  unfold lawDif
  have : ∀ (gs : List Int), (∀ g ∈ gs, g.toNat ≤ 6) → (gs.flatMap fun g => (rg 0 g.toNat).map fun h => difM m (rowG rows g) (rowG rows h)).length ≤ 6 * gs.length := by
    intro gs
    induction gs with
    | nil => intro _; simp
    | cons g gs ih =>
      intro H
      rw [List.flatMap_cons, List.length_append, List.length_map, rg_len, List.length_cons]
      have := H g List.mem_cons_self
      have := ih fun x hx => H x (List.mem_cons_of_mem _ hx)
      omega
  have := this (rg 0 rows.length) fun g hg => by have := rg_mem.mp hg; omega
  rw [rg_len] at this
  omega
theorem difL_len {m : Nat} {rows : List (List Int)} (h : rows.length ≤ 6) : (difL m rows).length ≤ 36 := by
  unfold difL
  rw [(srt_perm _ _).length_eq]
  refine Nat.le_trans (List.length_filter_le _ _) ?_
  rw [List.length_map]
  unfold difKv
  have := difFold_len m rows (enumL rows)
  have e : (enumL rows).length = rows.length := by simp [enumL]
  rw [e] at this
  exact Nat.le_trans this (Nat.mul_le_mul h h)
theorem setB_len {l : List Int} {m : Nat} (h : setB l m = true) : l.length ≤ m := by
  have := set_len h (by omega)
  omega
theorem difL_in {m : Nat} {rows : List (List Int)} : ∀ c ∈ difL m rows, c.length ≤ m := fun c hc => setB_len (isDif_set (difL_mem.mp hc).1)
theorem least_in {L : List (List Int)} {m : Nat} (h : ∀ c ∈ L, c ∈ subs m) : ∀ c ∈ leastOf L, c.length ≤ m := fun c hc => setB_len (subs_mem.mp (h c (List.mem_filter.mp hc).1))
theorem least_len {L : List (List Int)} : (leastOf L).length ≤ L.length := List.length_filter_le _ _
theorem law_y {x12 x14 x15 : Sl} {scr : D} {S : Sx} {tn tm : Int} {rows : List (List Int)} {marks things goal : List Int} (h : Dr tn tm rows marks things goal) : Sv (gAt prog.tab 30) (b_law.drop 15) [.v scr, .v .st, .v (.int tn), .v (.int tm), .v (.lst (rows.map iT)), .v (tD tn tm rows), .v (iT marks), .v (iT things), .v (iT goal), .v (.lst ((classes marks rows).map iT)), .v (iT (insideL marks rows things)), .v (iT (outsideL marks rows things)), x12, .v (iT (toldL marks rows goal)), x14, x15, .un, .un, .un, .un, .un, .un, .un, .un, .un, .un, .un, .un, .un, .un, .un, .un, .un] S (.ret false (.bl true) S) := by
  have hr8 := h.r8
  have hr6 := h.r6
  have hn := h.n6
  have hn0 := h.n0
  have hm := h.m4
  have h0 := h.m0
  have hm8 : tm ≤ 8 := by omega
  have htn : tn.toNat = rows.length := by have := h.len; omega
  have ol := outsideL_len (marks := marks) (rows := rows) (things := things)
  have ol2 : rows.length * rows.length ≤ 8 * 8 := Nat.mul_le_mul hr8 hr8
  have hsub := subsLen8 hm8
  refine s_iteF (ev_to (e_or (p := false) (q := false) (ev_to (e_not (e_eqR (n := 29) (x := (insideL marks rows things).length) (y := (outsideL marks rows things).length) (e_call (ds := [tD tn tm rows, iT marks, iT things]) (by and_intros) (cl_sharpness (n := 24) h.ms h.th hr8) (by decide)) (e_share (n := 27) (by and_intros) (by and_intros) (by and_intros) (by omega) (by omega) (by decide)) (by decide)) (by decide)) rfl)
    (fun _ => ew (e_not (e_eqR (n := 29) (x := (toldL marks rows goal).length) (y := tn) (e_call (ds := [tD tn tm rows, iT marks, iT goal]) (by and_intros) (cl_told_share (n := 23) h.ms h.go hr8 (h.cls goal) (by omega)) (by decide)) (e_share (n := 27) (by and_intros) (by and_intros) (by and_intros) (by omega) (by omega) (by decide)) (by decide)) (by decide)) rfl) (by decide)) rfl) ?_
  refine s_asg (d := .lst (([] : List (List Int)).map iT)) (by and_intros) ?_
  refine s_forR (i := D.int) (l := rg 0 tn.toNat) (step := fun L g => L ++ (rg 0 g.toNat).map fun x => difM tm.toNat (rowG rows g) (rowG rows x)) (fun ρ (L : List (List Int)) (z : Sl) => (ρ.set 20 (.v (.lst (L.map iT)))).set 21 z) (fun pre L => L.length ≤ 6 * pre.length) (s0 := []) .un (sr_rng1 (by and_intros) ⟨by omega, by omega⟩) rfl (Nat.zero_le _) ?_ (fun z => rfl) (fun _ => ?_)
  · intro pre g post L e hL z
    have hg : g ∈ rg 0 rows.length := htn ▸ (e ▸ List.mem_append_right _ List.mem_cons_self : g ∈ rg 0 tn.toNat)
    obtain ⟨g1, g2⟩ := rg_mem.mp hg
    have hpl := congrArg List.length e
    rw [List.length_append, List.length_cons, rg_len] at hpl
    refine ⟨.v (.int g), tu_nm (s_asg (d := .lst ((L ++ (rg 0 g.toNat).map fun x => difM tm.toNat (rowG rows g) (rowG rows x)).map iT)) (e_bin (x := .lst (L.map iT)) (y := .lst (((rg 0 g.toNat).map fun x => difM tm.toNat (rowG rows g) (rowG rows x)).map iT)) (by and_intros) ?_ (b_addl (by rw [List.length_map, rg_len]; omega)) nt0) s_nil), ?_⟩
    · refine e_lcm (i := D.int) (l := rg 0 g.toNat) (j := iT) (f := fun x => difM tm.toNat (rowG rows g) (rowG rows x)) (d := fun x => iT (difM tm.toNat (rowG rows g) (rowG rows x))) (sr_rng1 (by and_intros) ⟨by omega, by omega⟩) tb_nm (fun x hx => ?_) can_tp
      have hx' : x ∈ rg 0 rows.length := by
        obtain ⟨x1, x2⟩ := rg_mem.mp hx
        exact rg_mem.mpr ⟨x1, by omega⟩
      refine ew (e_blt (es_cons (e_lcid (i := D.int) (l := rg 0 tm.toNat) (c := fun y => !decide (decide (y ∈ rowG rows g) = decide (y ∈ rowG rows x))) (sr_rng1 (by and_intros) ⟨by omega, by omega⟩) tb_nm (fun y hy => ?_) (by and_intros)) es_nil) bl_tupl nt0) rfl
      exact ew (e_cmp (x := .bl (decide (y ∈ rowG rows g))) (y := .bl (decide (y ∈ rowG rows x))) (e_cmp (x := .int y) (y := iT (rowG rows g)) (by and_intros) (e_idx (x := .lst (rows.map iT)) (y := .int g) (by and_intros) (by and_intros) (ix_rowL' hg) (by decide)) (c_int rfl (by decide)) (by decide)) (e_cmp (x := .int y) (y := iT (rowG rows x)) (by and_intros) (e_idx (x := .lst (rows.map iT)) (y := .int x) (by and_intros) (by and_intros) (ix_rowL' hx') (by decide)) (c_int rfl (by decide)) (by decide)) c_neb (by decide)) rfl
    · rw [List.length_append, List.length_append, List.length_map, rg_len, List.length_singleton]
      omega
  rw [foldl_flat (fun g => (rg 0 g.toNat).map fun x => difM tm.toNat (rowG rows g) (rowG rows x)), List.nil_append, htn]
  change Sv _ _ (wipe (List.set (List.set _ 20 (.v (.lst ((lawDif tm.toNat rows).map iT)))) _ _) _) _ _
  refine s_asgb (ds := (difL tm.toNat rows).map iT) (ev_to (e_lcf (i := pr D.int iT) (l := srt (ltPr ltI ltS) ((sortU ltRow (lawDif tm.toNat rows)).map szk)) (j := iT) (f := fun q => q.2) (c := fun q => decide (0 < q.1)) (d := fun q => iT q.2) (sr_ex (x := .lst ((srt (ltPr ltI ltS) ((sortU ltRow (lawDif tm.toNat rows)).map szk)).map (pr D.int iT))) (e_blt (es_cons ?_ es_nil) (bl_sorted sb_pr (by decide)) nt1) rfl) tb_pr (fun q hq => ew (by and_intros) rfl) (fun q hq _ => ew (by and_intros) rfl) ⟨fun _ _ => rfl⟩) (by rw [difL_law])) ?_
  · exact e_lcm (i := iT) (l := sortU ltRow (lawDif tm.toNat rows)) (d := fun p => .tup [.int p.length, iT p]) (j := pr D.int iT) (f := szk) (sr_ex (e_ssetT (l := lawDif tm.toNat rows) (by and_intros) (lawDif_len hr6)) rfl) tb_nm (fun p hp => by and_intros) ⟨fun _ _ => rfl⟩
  refine s_frz ⟨rfl⟩ ?_
  dsimp only [wipe, List.set]
  have dl := difL_len (m := tm.toNat) hr6
  refine s_iteF (ev_to (e_not (p := true) (e_sameT (n := 28) (k := k_difference_rows) (given := [tD tn tm rows]) (due := .lst ((difL tm.toNat rows).map iT)) (by and_intros) (by and_intros) (by and_intros) (by rw [told1 (n := 29) rfl]; exact toldOk (cl_difs (n := 27) h0 hm8 hr8).eq) (sm_setl (n := 24) (B := tm.toNat) (by omega) difL_in (by omega)) (by decide)) (by decide)) rfl) ?_
  refine s_asg (d := .lst ((classes (rg 0 tm.toNat) rows).map iT)) (e_call (ds := [.lst (rows.map iT), iT (rg 0 tm.toNat)]) (es_cons (by and_intros) (es_cons (e_tupS (sr_rng1 (by and_intros) ⟨by omega, by omega⟩) (by decide)) es_nil)) (cg_law_classes hr8) (by decide)) ?_
  refine s_asgb (ds := (fullL tm.toNat rows).map iT) (e_lcid (i := iT) (l := subs tm.toNat) (c := fullB tm.toNat rows) (sr_ex (e_call (ds := [.int tm]) (by and_intros) (cl_law_subsets h0 hm8) (by decide)) rfl) tb_nm (fun own ho => ?_) (by and_intros)) ?_
  · exact ew (e_cmp (x := .lst ((classes own rows).map iT)) (y := .lst ((classes (rg 0 tm.toNat) rows).map iT)) (e_call (ds := [.lst (rows.map iT), iT own]) (by and_intros) (cg_law_classes hr8) (by decide)) (by and_intros) (c_eql (by decide)) (by decide)) (congrArg D.bl dec_irr)
  refine s_frz ⟨rfl⟩ ?_
  dsimp only [wipe, List.set]
  refine s_asgb (ds := (leastOf (fullL tm.toNat rows)).map iT) (e_leastOf (n := 29) (L := fullL tm.toNat rows) ⟨rfl⟩ rfl rfl (by decide) (by decide) (by decide)) ?_
  refine s_frz ⟨rfl⟩ ?_
  dsimp only [wipe, List.set]
  have fsub : ∀ c ∈ fullL tm.toNat rows, c ∈ subs tm.toNat := fun c hc => (List.mem_filter.mp hc).1
  have flen : (fullL tm.toNat rows).length ≤ 256 := Nat.le_trans (List.length_filter_le _ _) hsub
  have llen := least_len (L := fullL tm.toNat rows)
  have hE := enough_law tm.toNat rows
  have hC := core_law tm.toNat rows
  have hfm : ∀ own ∈ subs tm.toNat, ((difL tm.toNat rows).all fun row => row.any fun x => decide (x ∈ own)) = decide (own ∈ fullL tm.toNat rows) := fun own ho => full_mem ho
  have lin := least_in fsub
  generalize leastOf (fullL tm.toNat rows) = LL at hE hC lin llen ⊢
  generalize fullL tm.toNat rows = FF at flen llen hfm ⊢
  have din := difL_in (m := tm.toNat) (rows := rows)
  generalize difL tm.toNat rows = DD at hfm dl ⊢
  refine s_iteF (ev_to (e_or (p := false) (q := false) (ev_to (e_not (p := true) (e_sameT (n := 28) (k := k_enough_sets) (given := [tD tn tm rows]) (due := .lst ((LL).map iT)) (by and_intros) (by and_intros) (by and_intros) (by rw [told1 (n := 29) rfl, ← hE]; exact toldOk (cl_enough (n := 26) h0 hm8 hr8).eq) (sm_setl (n := 24) (B := tm.toNat) (by omega) lin (by omega)) (by decide)) (by decide)) rfl)
    (fun _ => ew (e_not (p := true) (e_same (d := iT (coreD tm.toNat rows)) (e_call (ds := [tD tn tm rows]) (by and_intros) (cl_core_of (n := 27) h0 hm8 hr8) (by decide)) ?_ (sm_ints (n := 27) ?_) (by decide)) (by decide)) rfl) (by decide)) rfl) ?_
  · rw [hC]
    exact e_blt (es_cons (e_lcid (i := D.int) (l := rg 0 tm.toNat) (c := fun x => (LL).all fun own => decide (x ∈ own)) (sr_rng1 (by and_intros) ⟨by omega, by omega⟩) tb_nm (fun x hx => ew (by and_intros) rfl) (by and_intros)) es_nil) bl_tupl nt0
  · rw [hC]
    exact Nat.le_trans (List.length_filter_le _ _) (by rw [rg_len]; omega)
  refine s_iteF (ev_to (e_blt (es_cons (e_lcm (i := iT) (l := subs tm.toNat) (j := D.bl) (f := fun own => !decide (((DD).all fun row => row.any fun x => decide (x ∈ own)) = decide (own ∈ FF))) (d := fun own => .bl (!decide (((DD).all fun row => row.any fun x => decide (x ∈ own)) = decide (own ∈ FF)))) (sr_ex (e_call (ds := [.int tm]) (by and_intros) (cl_law_subsets h0 hm8) (by decide)) rfl) tb_nm (fun own ho => ?_) can_bl) es_nil) bl_any nt0) ?_) ?_
  · refine ew (e_cmp (x := .bl ((DD).all fun row => row.any fun x => decide (x ∈ own))) (y := .bl (decide (own ∈ FF))) (e_blt (es_cons (e_lcm (i := iT) (l := DD) (j := D.bl) (f := fun row => row.any fun x => decide (x ∈ own)) (d := fun row => .bl (row.any fun x => decide (x ∈ own))) (by and_intros) tb_nm (fun row hrow => ew (by and_intros) rfl) can_bl) es_nil) bl_all nt1) ?_ c_neb (by decide)) rfl
    exact ev_to (e_cmp (x := iT own) (y := .lst ((FF).map iT)) (by and_intros) (by and_intros) (c_inl rfl (by decide)) (by decide)) (congrArg D.bl dec_irr)
  · refine congrArg D.bl (List.any_eq_false.mpr fun own ho => ?_)
    rw [hfm own ho]; simp
  refine s_asg (d := iT (otherL tm.toNat goal)) (e_blt (es_cons (e_lcid (i := D.int) (l := rg 0 tm.toNat) (c := fun x => !decide (x ∈ goal)) (sr_rng1 (by and_intros) ⟨by omega, by omega⟩) tb_nm (fun x hx => ew (by and_intros) rfl) (by and_intros)) es_nil) bl_tupl nt0) ?_
  have ho : setB (otherL tm.toNat goal) tm = true := sub_set' h0 List.filter_sublist
  refine s_asgb (ds := ((subs tm.toNat).filter (goodB tm.toNat rows goal)).map iT) (e_lcid (i := iT) (l := subs tm.toNat) (c := goodB tm.toNat rows goal) (sr_ex (e_call (ds := [.int tm]) (by and_intros) (cl_law_subsets h0 hm8) (by decide)) rfl) tb_nm (fun own hown => ?_) (by and_intros)) ?_
  · have hos : setB own tm = true := by
      have := subs_mem.mp hown
      rwa [Int.toNat_of_nonneg h0] at this
    exact ew (e_and (p := inL own (otherL tm.toNat goal)) (q := decide (toldL own rows goal = toldL (otherL tm.toNat goal) rows goal)) (e_call (ds := [iT own, iT (otherL tm.toNat goal)]) (by and_intros) cl_inst (by decide)) (fun _ => ew (e_cmp (x := iT (toldL own rows goal)) (y := iT (toldL (otherL tm.toNat goal) rows goal)) (e_call (ds := [tD tn tm rows, iT own, iT goal]) (by and_intros) (cl_told (n := 24) hos h.go hr8 (h.cls goal)) (by decide)) (e_call (ds := [tD tn tm rows, iT (otherL tm.toNat goal), iT goal]) (by and_intros) (cl_told (n := 24) ho h.go hr8 (h.cls goal)) (by decide)) (c_eqt (by decide)) (by decide)) rfl) (by decide)) rfl
  refine s_frz ⟨rfl⟩ ?_
  dsimp only [wipe, List.set]
  have gsub : ∀ c ∈ (subs tm.toNat).filter (goodB tm.toNat rows goal), c ∈ subs tm.toNat := fun c hc => (List.mem_filter.mp hc).1
  have glen : ((subs tm.toNat).filter (goodB tm.toNat rows goal)).length ≤ 256 := Nat.le_trans (List.length_filter_le _ _) hsub
  have g2len := least_len (L := (subs tm.toNat).filter (goodB tm.toNat rows goal))
  refine s_iteF (ev_to (e_not (p := true) (e_sameT (n := 28) (k := k_enough_for) (given := [tD tn tm rows, iT goal]) (due := .lst ((leastOf ((subs tm.toNat).filter (goodB tm.toNat rows goal))).map iT)) (by and_intros) (by and_intros) (e_leastOf (n := 29) (L := (subs tm.toNat).filter (goodB tm.toNat rows goal)) ⟨rfl⟩ rfl rfl (by decide) (by decide) (by decide)) (by rw [told2 (n := 29) rfl, ← enough_for_law]; exact toldOk (cl_enough_for (n := 22) h0 hm8 h.go hr8 (h.cls goal)).eq) (sm_setl (n := 24) (B := tm.toNat) (by omega) (least_in gsub) (by omega)) (by decide)) (by decide)) rfl) ?_
  exact law_z h
end Pu

/-! ======== Y58d ======== -/
namespace Pu
open PySem
local macro_rules | `(tactic| and_intros) => `(tactic| repeat' first
  | exact nt0 | exact nt1 | exact nt2 | exact Nat.zero_lt_two | exact Nat.one_lt_two
  | exact e_var ⟨rfl⟩ Nat.zero_lt_two | exact e_var ⟨rfl⟩ Nat.one_lt_two | exact e_varb ⟨rfl⟩
  | apply e_int | apply e_bl | apply e_non | apply e_str | apply e_gfn | apply e_gint
  | exact es_nil | apply es_cons | apply e_tup | apply e_lst | apply e_bin | apply e_neg | apply e_cmp | apply e_chain | apply e_isN
  | apply e_and | apply e_or | apply e_not | apply e_ite | apply e_call | apply e_blt | apply e_isin | apply e_fld | apply e_idx
  | apply e_lcid | apply e_lcm | apply e_lcf | apply e_sortk
  | exact cl_inst | exact fd_inst | exact ix0 | exact ix1 | exact ix2
  | apply ew | apply cw
  | apply e_tupS | apply e_lstS | apply sr_rng1 | apply sr_rng2 | apply sr_enum | apply sr_zipt | apply sr_zipl | exact sr_dk ⟨rfl⟩ | apply sr_ex
  | exact tb_nm | exact tb_pr
  | exact can_int | exact can_bl | exact can_tp | exact can_ls | exact can_id | apply can_pr | apply can_tp1
  | exact e_no | exact lk rfl
  | exact b_addi | exact b_subi | apply b_addt | apply b_addl | apply b_addt1
  | exact c_lti | exact c_lei | exact c_gti | exact c_gei | exact c_eqi | exact c_nei | exact c_eqb | exact c_neb
  | exact c_eqt (by decide) | exact c_net (by decide) | exact c_eql (by decide) | exact c_nel (by decide)
  | exact c_int rfl (by decide) | exact c_inl rfl (by decide) | exact c_nint rfl (by decide) | exact c_ninl rfl (by decide)
  | exact bl_all | exact bl_any | exact bl_sum | exact bl_lent | exact bl_lenl | exact bl_lent' | exact bl_lenl' | exact bl_tupl | exact bl_tupt | exact bl_lstl | exact bl_lstt | exact bl_int
  | exact bl_sorted sb_int (by decide) | exact bl_sorted sb_pr (by decide) | exact bl_sorted sb_ls (by decide)
  | exact sb_int | exact sb_pr | exact sb_ls
  | apply s_ret | apply s_asg | apply s_asgb | apply s_asgt | apply s_par | exact s_nil | (refine s_frz ⟨rfl⟩ ?_) | (refine s_frzd ⟨rfl⟩ ?_) | apply s_expr
  | assumption
  | rfl
  | omega
  | intro _)
/-! k58: the law's first part -/
theorem sharp_len {marks : List Int} {rows : List (List Int)} : (sharpL marks rows).length = (shL (classes marks rows)).length := (srt_perm _ _).length_eq
theorem law_x {scr : D} {S : Sx} {tn tm : Int} {rows : List (List Int)} {marks things goal : List Int} (h : Dr tn tm rows marks things goal) (hS : St S) : ∃ S', Sv (gAt prog.tab 30) (b_law.drop 3) [.v scr, .v .st, .v (.int tn), .v (.int tm), .v (.lst (rows.map iT)), .v (tD tn tm rows), .v (iT marks), .v (iT things), .v (iT goal), .un, .un, .un, .un, .un, .un, .un, .un, .un, .un, .un, .un, .un, .un, .un, .un, .un, .un, .un, .un, .un, .un, .un, .un] S (.ret false (.bl true) S') := by
  have hr8 := h.r8
  have hr6 := h.r6
  have hn := h.n6
  have hn0 := h.n0
  have hm := h.m4
  have h0 := h.m0
  have hm8 : tm ≤ 8 := by omega
  obtain ⟨other, S', hS', ho, e9⟩ := set_ok (n := 28) (m := tm) hS (by omega)
  refine ⟨S', ?_⟩
  have hcl := classes_len (marks := marks) (rows := rows)
  have hcs := fun c hc => Nat.le_trans (classes_le (marks := marks) (rows := rows) c hc) hr8
  have hout : outsideL marks rows things = srt ltI ((classes marks rows).filter fun own => own.any fun g => decide (g ∈ things)).flatten := by
    unfold outsideL
    congr 2
    exact List.filter_congr fun c _ => out_eq c things
  have ol := outsideL_len (marks := marks) (rows := rows) (things := things)
  have il := insideL_len (marks := marks) (rows := rows) (things := things)
  have ol2 : rows.length * rows.length ≤ 8 * 8 := Nat.mul_le_mul hr8 hr8
  have shl : (shL (classes marks rows)).length ≤ 256 := by
    rw [shL_len]
    exact Nat.le_trans (Nat.pow_le_pow_right (by decide) (show (classes marks rows).length ≤ 8 by omega)) (by decide)
  have shs := shL_short (classes marks rows) hcs
  refine s_asg (d := .lst ((classes marks rows).map iT)) (e_call (ds := [.lst (rows.map iT), iT marks]) (by and_intros) (cg_law_classes hr8) (by decide)) ?_
  refine s_asg (d := iT (insideL marks rows things)) (e_call (ds := [.lst (((classes marks rows).filter fun c => inL c things).map iT)]) (by and_intros) (cg_law_joined (B := 8) (fun c hc => hcs c (List.mem_filter.mp hc).1) (by have := List.length_filter_le (fun c => inL c things) (classes marks rows); omega)) (by decide)) ?_
  refine s_asg (d := iT (outsideL marks rows things)) (e_call (ds := [.lst (((classes marks rows).filter fun own => own.any fun g => decide (g ∈ things)).map iT)]) (by and_intros) (by rw [hout]; exact cg_law_joined (B := 8) (fun c hc => hcs c (List.mem_filter.mp hc).1) (by have := List.length_filter_le (fun own : List Int => own.any fun g => decide (g ∈ things)) (classes marks rows); omega)) (by decide)) ?_
  dsimp only [wipe, List.set]
  refine s_asg (d := .lst [.tup [.fn k_look_classes, .tup [tD tn tm rows, iT marks], tp iT (classes marks rows)], .tup [.fn k_inside, .tup [tD tn tm rows, iT marks, iT things], iT (insideL marks rows things)], .tup [.fn k_outside, .tup [tD tn tm rows, iT marks, iT things], iT (outsideL marks rows things)]]) (by and_intros) ?_
  refine s_asg (d := .lst ([.tup [.fn k_look_classes, .tup [tD tn tm rows, iT marks], tp iT (classes marks rows)], .tup [.fn k_inside, .tup [tD tn tm rows, iT marks, iT things], iT (insideL marks rows things)], .tup [.fn k_outside, .tup [tD tn tm rows, iT marks, iT things], iT (outsideL marks rows things)]] ++ [.tup [.fn k_edge, .tup [tD tn tm rows, iT marks, iT things], iT ((outsideL marks rows things).filter fun g => !decide (g ∈ insideL marks rows things))], .tup [.fn k_is_sharp, .tup [tD tn tm rows, iT marks, iT things], .bl (decide (insideL marks rows things = things))]])) (e_bin (by and_intros) (by and_intros) (b_addL (Nat.le_of_ble_eq_true rfl)) nt0) ?_
  refine s_asg (d := iT (toldL marks rows goal)) (e_call (ds := [.lst (((classes goal rows).map (insideL marks rows)).map iT)]) (es_cons (e_lcm (i := iT) (l := classes goal rows) (j := iT) (f := insideL marks rows) (d := fun wide => iT (insideL marks rows wide)) (sr_ex (e_call (ds := [.lst (rows.map iT), iT goal]) (by and_intros) (cg_law_classes hr8) (by decide)) rfl) tb_nm (fun wide hw => ew (e_call (ds := [.lst (((classes marks rows).filter fun c => inL c wide).map iT)]) (by and_intros) (cg_law_joined (B := 8) (fun c hc => hcs c (List.mem_filter.mp hc).1) (by have := List.length_filter_le (fun c => inL c wide) (classes marks rows); omega)) (by decide)) rfl) can_tp) es_nil) (cg_law_joined (B := 64) (fun c hc => ?_) ?_) (by decide)) ?_
  · obtain ⟨w, _, rfl⟩ := List.mem_map.mp hc
    have := insideL_len (marks := marks) (rows := rows) (things := w)
    omega
  · rw [List.length_map]
    have := classes_len (marks := goal) (rows := rows)
    omega
  refine sx_asg (x_call (ds := [.st, .int tm]) (by and_intros) e9 (by decide)) ?_
  dsimp only [wipe, List.set, List.cons_append, List.nil_append]
  refine s_asg (d := .lst ([.tup [.fn k_look_classes, .tup [tD tn tm rows, iT marks], tp iT (classes marks rows)], .tup [.fn k_inside, .tup [tD tn tm rows, iT marks, iT things], iT (insideL marks rows things)], .tup [.fn k_outside, .tup [tD tn tm rows, iT marks, iT things], iT (outsideL marks rows things)], .tup [.fn k_edge, .tup [tD tn tm rows, iT marks, iT things], iT ((outsideL marks rows things).filter fun g => !decide (g ∈ insideL marks rows things))], .tup [.fn k_is_sharp, .tup [tD tn tm rows, iT marks, iT things], .bl (decide (insideL marks rows things = things))]] ++ [.tup [.fn k_told_things, .tup [tD tn tm rows, iT marks, iT goal], iT (toldL marks rows goal)], .tup [.fn k_is_finer_look, .tup [tD tn tm rows, iT marks, iT other], .bl ((classes marks rows).all fun own => (classes other rows).any fun wide => inL own wide)]])) (e_bin (by and_intros) (e_lst (es_cons (by and_intros) (es_cons (e_tup (es_cons (by and_intros) (es_cons (by and_intros) (es_cons ?_ es_nil))) (by decide)) es_nil))) (b_addL (Nat.le_of_ble_eq_true rfl)) nt0) ?_
  · refine e_blt (es_cons (e_lcm (i := iT) (l := classes marks rows) (j := D.bl) (f := fun own => (classes other rows).any fun wide => inL own wide) (d := fun own => .bl ((classes other rows).any fun wide => inL own wide)) (by and_intros) tb_nm (fun own hown => ?_) can_bl) es_nil) bl_all nt0
    exact ew (e_blt (es_cons (e_lcm (i := iT) (l := classes other rows) (j := D.bl) (f := fun wide => inL own wide) (d := fun wide => .bl (inL own wide)) (sr_ex (e_call (ds := [.lst (rows.map iT), iT other]) (by and_intros) (cg_law_classes hr8) (by decide)) rfl) tb_nm (fun wide hw => ew (by and_intros) rfl) can_bl) es_nil) bl_any nt0) rfl
  refine s_asg (d := .lst (([[]] : List (List Int)).map iT)) (by and_intros) ?_
  dsimp only [wipe, List.set, List.cons_append, List.nil_append]
  refine s_forR (i := iT) (l := classes marks rows) (step := shStep) (fun ρ (L : List (List Int)) (z : Sl) => (ρ.set 15 (.v (.lst (L.map iT)))).set 16 z) (fun pre L => L = shL pre) (s0 := [[]]) .un (sr_ex (by and_intros) rfl) rfl rfl ?_ (fun z => rfl) (fun _ => ?_)
  · intro pre own post L e hL z
    have hp : pre.length ≤ 5 := by
      have := congrArg List.length e
      rw [List.length_append, List.length_cons] at this
      omega
    have hown := hcs own (e ▸ List.mem_append_right _ List.mem_cons_self)
    have h1 := shL_len pre
    have h2 := shL_short pre (fun c hc => hcs c (e ▸ List.mem_append_left _ hc))
    have h3 : 2 ^ pre.length ≤ 2 ^ 5 := Nat.pow_le_pow_right (by decide) hp
    rw [← hL] at h1 h2
    refine ⟨.v (iT own), tu_nm (s_asg (d := .lst ((shStep L own).map iT)) (e_bin (x := .lst (L.map iT)) (y := .lst ((L.map fun low => srt ltI (low ++ own)).map iT)) (by and_intros) ?_ (b_addl (by rw [List.length_map]; omega)) nt0) s_nil), by rw [hL, shL_snoc]⟩
    refine e_lcm (i := iT) (l := L) (j := iT) (f := fun low => srt ltI (low ++ own)) (d := fun low => iT (srt ltI (low ++ own))) (by and_intros) tb_nm (fun low hl => ?_) can_tp
    have := h2 low hl
    exact ew (e_blt (es_cons (e_blt (es_cons (e_bin (x := iT low) (y := iT own) (by and_intros) (by and_intros) (b_addt (by omega)) nt1) es_nil) (bl_sortedT (lt := ltI) sb_int (by decide)) nt1) es_nil) bl_tupl nt0) rfl
  dsimp only [wipe, List.set, List.cons_append, List.nil_append]
  change Sv _ _ [_, _, _, _, _, _, _, _, _, _, _, _, _, _, _, .v (.lst ((shL (classes marks rows)).map iT)), _, _, _, _, _, _, _, _, _, _, _, _, _, _, _, _, _] _ _
  refine s_asg (e_bin (by and_intros) (y := .lst [.tup [.fn k_sharp_sets, .tup [tD tn tm rows, iT marks], .lst ((sharpL marks rows).map iT)]]) (e_lst (es_cons (e_tup (es_cons (by and_intros) (es_cons (by and_intros) (es_cons ?_ es_nil))) (by decide)) es_nil)) (b_addL (Nat.le_of_ble_eq_true rfl)) nt0) ?_
  · show Ev _ _ _ _ _ (.lst ((isort (leBy (ltPr ltI ltS) szk) (shL (classes marks rows))).map iT))
    rw [← srt_deco (ltPr ltI ltS) szk (fun _ => rfl)]
    refine e_lcm (i := pr D.int iT) (l := srt (ltPr ltI ltS) ((shL (classes marks rows)).map szk)) (d := fun q => iT q.2) (j := iT) (f := fun q => q.2) ?_ tb_pr (fun q hq => ew (by and_intros) rfl) ⟨fun _ _ => rfl⟩
    refine sr_ex (x := .lst ((srt (ltPr ltI ltS) ((shL (classes marks rows)).map szk)).map (pr D.int iT))) (e_blt (es_cons ?_ es_nil) (bl_sorted sb_pr (by decide)) nt1) rfl
    exact e_lcm (i := iT) (l := shL (classes marks rows)) (d := fun p => .tup [.int p.length, iT p]) (j := pr D.int iT) (f := szk) (by and_intros) tb_nm (fun p hp => by and_intros) ⟨fun _ _ => rfl⟩
  dsimp only [wipe, List.set, List.cons_append, List.nil_append]
  have ci : ∀ c ∈ classes marks rows, c.length ≤ 8 := hcs
  have tl := toldL_len (marks := marks) (rows := rows) (goal := goal)
  refine s_asked (n := 28) (sr_ex (by and_intros) rfl) ⟨rfl⟩ ⟨rfl⟩ ⟨rfl⟩ (by decide) (by decide) (by decide) (fun d hd => ?_) (law_y h)
  simp only [List.mem_cons, List.not_mem_nil, or_false] at hd
  rcases hd with rfl | rfl | rfl | rfl | rfl | rfl | rfl | rfl
  · exact as_mk (by rw [told2 (n := 29) rfl]; exact toldOk (cl_look (n := 25) h.ms hr8).eq) (sm_sets (n := 25) (B := 8) (by omega) ci (by omega))
  · exact as_mk (by rw [told3 (n := 29) rfl]; exact toldOk (cl_inside (n := 24) h.ms h.th hr8).eq) (sm_ints (n := 26) (by omega))
  · exact as_mk (by rw [told3 (n := 29) rfl]; exact toldOk (cl_outside (n := 24) h.ms h.th hr8).eq) (sm_ints (n := 26) (by omega))
  · exact as_mk (by rw [told3 (n := 29) rfl]; exact toldOk (cl_edge (n := 23) h.ms h.th hr8).eq) (sm_ints (n := 26) (Nat.le_trans (List.length_filter_le _ _) (by omega)))
  · exact as_mk (by rw [told3 (n := 29) rfl]; exact toldOk (cl_is_sharp (n := 23) h.ms h.th hr8).eq) sm_bl
  · exact as_mk (by rw [told3 (n := 29) rfl]; exact toldOk (cl_told (n := 23) h.ms h.go hr8 (h.cls goal)).eq) (sm_ints (n := 26) (by omega))
  · exact as_mk (by rw [told3 (n := 29) rfl]; exact toldOk (cl_finer (n := 24) h.ms ho hr8).eq) sm_bl
  · exact as_mk (by rw [told2 (n := 29) rfl]; exact toldOk (cl_sharp_sets (n := 24) h.ms hr8).eq) (sm_setl (n := 24) (B := 64) (by rw [sharp_len]; omega) (fun c hc => by have := shs c ((srt_perm _ _).mem_iff.mp hc); omega) (by omega))
end Pu

/-! ======== Y58e ======== -/
namespace Pu
open PySem
local macro_rules | `(tactic| and_intros) => `(tactic| repeat' first
  | exact nt0 | exact nt1 | exact nt2 | exact Nat.zero_lt_two | exact Nat.one_lt_two
  | exact e_var ⟨rfl⟩ Nat.zero_lt_two | exact e_var ⟨rfl⟩ Nat.one_lt_two | exact e_varb ⟨rfl⟩
  | apply e_int | apply e_bl | apply e_non | apply e_str | apply e_gfn | apply e_gint
  | exact es_nil | apply es_cons | apply e_tup | apply e_lst | apply e_bin | apply e_neg | apply e_cmp | apply e_chain | apply e_isN
  | apply e_and | apply e_or | apply e_not | apply e_ite | apply e_call | apply e_blt | apply e_isin | apply e_fld | apply e_idx
  | apply e_lcid | apply e_lcm | apply e_lcf | apply e_sortk
  | exact cl_inst | exact fd_inst | exact ix0 | exact ix1 | exact ix2
  | apply ew | apply cw
  | apply e_tupS | apply e_lstS | apply sr_rng1 | apply sr_rng2 | apply sr_enum | apply sr_zipt | apply sr_zipl | exact sr_dk ⟨rfl⟩ | apply sr_ex
  | exact tb_nm | exact tb_pr
  | exact can_int | exact can_bl | exact can_tp | exact can_ls | exact can_id | apply can_pr | apply can_tp1
  | exact e_no | exact lk rfl
  | exact b_addi | exact b_subi | apply b_addt | apply b_addl | apply b_addt1
  | exact c_lti | exact c_lei | exact c_gti | exact c_gei | exact c_eqi | exact c_nei | exact c_eqb | exact c_neb
  | exact c_eqt (by decide) | exact c_net (by decide) | exact c_eql (by decide) | exact c_nel (by decide)
  | exact c_int rfl (by decide) | exact c_inl rfl (by decide) | exact c_nint rfl (by decide) | exact c_ninl rfl (by decide)
  | exact bl_all | exact bl_any | exact bl_sum | exact bl_lent | exact bl_lenl | exact bl_lent' | exact bl_lenl' | exact bl_tupl | exact bl_tupt | exact bl_lstl | exact bl_lstt | exact bl_int
  | exact bl_sorted sb_int (by decide) | exact bl_sorted sb_pr (by decide) | exact bl_sorted sb_ls (by decide)
  | exact sb_int | exact sb_pr | exact sb_ls
  | apply s_ret | apply s_asg | apply s_asgb | apply s_asgt | apply s_par | exact s_nil | (refine s_frz ⟨rfl⟩ ?_) | (refine s_frzd ⟨rfl⟩ ?_) | apply s_expr
  | assumption
  | rfl
  | omega
  | intro _)
/-! k58: the law answers True -/
theorem k58_does : LawDoes prog.tab 30 k__law_state 1 N_law.length b_law := by
  intro zs hz
  obtain ⟨a, b, e0⟩ := state_ok (n := 29) zs
  have q0 : St (some [.int a, .int b]) := ⟨a, b, rfl⟩
  obtain ⟨n, S1, q1, hn, e1⟩ := take_st (n := 29) (m := 7) q0 (by decide) (by decide)
  obtain ⟨m, S2, q2, hm, e2⟩ := take_st (n := 29) (m := 5) q1 (by decide) (by decide)
  obtain ⟨rows, S3, q3, hl, hr, e3⟩ := rows_ok (n := 28) (a := n) (m := m) q2 (by omega) (by omega)
  obtain ⟨marks, S4, q4, hma, e4⟩ := set_ok (n := 28) (m := m) q3 (by omega)
  obtain ⟨things, S5, q5, hth, e5⟩ := set_ok (n := 28) (m := n) q4 (by omega)
  obtain ⟨goal, S6, q6, hgo, e6⟩ := set_ok (n := 28) (m := m) q5 (by omega)
  have hlen : (rows.length : Int) = n := by omega
  have hD : Dr n m rows marks things goal := ⟨by omega, by omega, by omega, by omega, hlen, hr, hma, hth, hgo⟩
  obtain ⟨S7, hx⟩ := law_x (scr := .scr (zs.map D.int)) hD q6
  refine ⟨_, S7, e0, ?_⟩
  show Ss.den _ _ [.v (.scr (zs.map D.int)), .v .st, .un, .un, .un, .un, .un, .un, .un, .un, .un, .un, .un, .un, .un, .un, .un, .un, .un, .un, .un, .un, .un, .un, .un, .un, .un, .un, .un, .un, .un, .un, .un] _ = _
  refine Sv.eq ?_
  refine sx_asgt (ds := [.int n, .int m]) (x_tup (xs_cons (x_call (ds := [.st, .int 7]) (by and_intros) e1 (by decide)) (xs_cons (x_call (ds := [.st, .int 5]) (by and_intros) e2 (by decide)) xs_nil)) (by decide)) rfl ?_
  refine sx_asg (x_call (ds := [.st, .int n, .int m]) (by and_intros) e3 (by decide)) ?_
  refine sx_asgt (ds := [tD n m rows, iT marks, iT things, iT goal]) (x_tup (xs_cons (x_of (e_make (ds := [.int n, .int m, .lst (rows.map iT)]) (by and_intros) (mk_table (n := 27) (by omega) (by omega) hlen hr) (by decide))) (xs_cons (x_call (ds := [.st, .int m]) (by and_intros) e4 (by decide)) (xs_cons (x_call (ds := [.st, .int n]) (by and_intros) e5 (by decide)) (xs_cons (x_call (ds := [.st, .int m]) (by and_intros) e6 (by decide)) xs_nil)))) (by decide)) rfl ?_
  exact hx
end Pu

/-! ======== H58 ======== -/
namespace Pu
open PySem PySem.Spec PyProof.Rows L2
abbrev Rr : PySem.W.OpenRow := PySem.W.OpenLaw.row PySem.Challenge.rw_conceptroads_k58_whole_looks_and_what_is
abbrev hk : PySem.W.Hook := hookP 6 prog.facts prog.defs (exB prog)
def ob (s : PySem.W.SharedT) : AlP := obsP 6 prog.facts prog.defs (exB prog) (HandSHeadRun.getT s)
theorem ob_eq (s : PySem.W.SharedT) : ob s = hk.obs s.abs := obsP_eq (HandSHeadRun.getT_eq s)
def loose0 : List PySem.Str := ["_wall", "Fault", "ZeroDivisor", "Malformed", "Refused", "is_integer", "common", "is_set", "check_set", "subsets_of", "set_key", "within", "met", "Ratio", "check_ratio", "MOST", "Table", "lines_of", "check_table", "look_classes"]
def loose1 : List PySem.Str := ["inside", "outside", "edge", "is_sharp", "sharpness", "sharp_sets", "size_key", "told_things", "told_share", "difference_rows", "enough_sets", "enough_for", "core_of", "is_finer_look", "_law_state", "_law_take", "_law_is_whole", "_law_same", "_law_told", "_law_set"]
def loose2 : List PySem.Str := ["_law_rows", "_law_subsets", "_law_classes", "_law_joined", "_law_within"]
def looseN : List PySem.Str := loose0 ++ loose1 ++ loose2
theorem prog_ok : prog.Ok where
  fn := by decide +kernel
  nmq := by decide +kernel
  f0 := List.mem_cons_self
  c0 := List.mem_cons_self
  nc := by decide
  rf := by decide +kernel
  rc := fun c h1 h2 h3 => by
    have h2' : c < 5 := h2
    have h1' : 2 ≤ c := h1
    have : c = 2 ∨ c = 3 ∨ c = 4 := by omega
    rcases this with rfl | rfl | rfl
    · exact absurd rfl h3
    · exact absurd rfl h3
    · exact ⟨_, List.mem_cons_self, rfl⟩
theorem run58 (w : World) : HandSHeadRun.RunEq Rr (PySem.W.view Rr.prog [51]) hk ob 3000 looseN w := by
  intro os
  kernel_rfl
end Pu

/-! ======== J58 ======== -/
namespace Pu
open PySem PySem.Spec PyProof.Rows L2
def n0 : Nat := 30
theorem law_t : LawT prog n0 k__law_state 1 b_law N_law "script" (prog.law.body.headD (.Pass default)) (prog.law.body.drop 1) where
  at_ := rfl
  dfl := by decide +kernel
  kwd := by decide +kernel
  sc := by decide +kernel
  pa := by decide +kernel
  bd := by kernel_rfl
  isN := by decide +kernel
  fr := by kernel_rfl
  c1 := by decide +kernel
  c2 := by decide +kernel
  does := k58_does
end Pu
open PySem PySem.W PySem.Calls PyProof.Rows
set_option maxRecDepth 100000 in
set_option maxHeartbeats 0 in
theorem PySem.Challenge.cw_conceptroads_k58_whole_looks_and_what_is_holds : PySem.Challenge.rw_conceptroads_k58_whole_looks_and_what_is.Holds := by
  w_on; o_law
  refine HandSHeadRun.head_any (r := OpenLaw.row PySem.Challenge.rw_conceptroads_k58_whole_looks_and_what_is) (q := view (OpenLaw.row PySem.Challenge.rw_conceptroads_k58_whole_looks_and_what_is).prog [51]) (H := Pu.hk) (ob := Pu.ob) (M := 3000) (loose := Pu.looseN) (d := HandSHeadRun.topDef (OpenLaw.row PySem.Challenge.rw_conceptroads_k58_whole_looks_and_what_is).prog 51) (kwd := []) Pu.ob_eq
    (by kernel_rfl) (fun s => by kernel_rfl) Pu.run58 (by kernel_rfl) (by kernel_rfl) (by kernel_rfl) (by rfl) (by first | assumption | decide +kernel) (by decide +kernel) ⟨rfl, rfl, rfl, rfl, rfl, by decide +kernel⟩ ?hw ?hc
  case hw => w_witness2
  case hc => exact Pu.walk_law Pu.prog_ok Pu.law_t rfl (by kernel_rfl) ⟨rfl, by decide, by decide⟩ (by kernel_rfl)
