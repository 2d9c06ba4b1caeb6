import PyProof.Rows.All
import Wide.All
import OpenK.AllK
import Wide.FinOn
import KE.SortData
import KE.GoesEnum
import KE.GoesNew
import HandS.ForMost
import HandS.Wide
import HandS.Zip
import HandS.TupAny
import HandS.Deep
import HandS.Flow
import HandS.Style
import HandS.IsInst
import HandS.Exc
import HandS.TryOnly
import HandS.TryMany
import HandS.ExcInit
import HandS.Conv
import HandS.Slots
import HandS.SlotsOwn
import HandS.Star
import HandS.DictTup
import HandS.SetKeys
import HandS.TupLe
import HandS.ExcValue
import HandS.ExcOwn
import HandS.ExcField
import HandS.Defaults
import HandS.ExcIs
import HandS.WordsExc
import HandS.More
import HandS.Words
import HandS.Head0
import HandS.Head1
import HandS.Head2
import HandS.HeadEnd
import HandS.HeadHook1
import HandS.HeadHook2
import KE.KStateDown
import Lean
import PySem.Challenge.RW_lateplans_k00_errors
set_option Elab.async false
set_option linter.all false
set_option maxRecDepth 100000
section
set_option maxHeartbeats 0
namespace Ev
open PySem

/-- plain data: what a value that nobody changes is worth -/
inductive D where
  | non | bl (b : Bool) | int (i : Int) | str (s : Str)
  | tup (ds : List D) | lst (ds : List D) | dic (ks : List L2.Key) (ds : List D)
  | ins (c : Nat) (fs : List D) | exc (c : Nat) (fs : List D) | fn (f : Nat)
  deriving Inhabited

mutual
def toP : D → Option PyData
  | .non => some .none
  | .bl b => some (.bool b)
  | .int i => some (.int i)
  | .str s => some (.str s)
  | .tup ds => match toPs ds with | some ps => some (.tuple ps) | none => none
  | .lst ds => match toPs ds with | some ps => some (.list ps) | none => none
  | _ => none
def toPs : List D → Option (List PyData)
  | [] => some []
  | d :: ds => match toP d, toPs ds with | some p, some ps => some (p :: ps) | _, _ => none
end

/-- what a name holds: fz: a value that nobody changes; vw: a list or dict to be read only, somebody else's; lst, dic: one of the frame's own -/
inductive Cell where
  | fz (d : D) | vw (d : D) | lst (ds : List D) | dic (ks : List L2.Key) (ds : List D)
  deriving Inhabited

def Cell.d : Cell → D
  | .fz d => d | .vw d => d | .lst ds => .lst ds | .dic ks ds => .dic ks ds

abbrev Rho := List (Option Cell)

/-- operators -/
inductive BO where
  | add | sub | mul | fdiv | mod | pow
  deriving DecidableEq
inductive CO where
  | eq | ne | lt | le | gt | ge | is | isnot | in_ | notin
  deriving DecidableEq
/-- built-ins by name that give a new value of the values handed in -/
inductive Bl where
  | len | abs | int | str | bool | max | min | sum | all | any | sorted | tuple | list | sortset | lenset
  deriving DecidableEq
/-- methods of built-in types that change nothing -/
inductive Bm where
  | join | split | items | values | get | index | count
  deriving DecidableEq
/-- classes for isinstance -/
inductive Ty where
  | int | bool | str | list | tuple | own (c : Nat)
  deriving DecidableEq

/-- a target -/
inductive Tg where
  | name (i : Nat)
  | tup (ts : List Tg)

mutual
inductive Ex where
  | var (i : Nat)
  | glo (x : Nat)
  | k (d : D)
  | tup (es : Es) | lst (es : Es)
  | bin (o : BO) (a b : Ex)
  | neg (a : Ex) | not (a : Ex)
  | and (es : Es) | or (es : Es)
  | ife (c a b : Ex)
  | cmp (o : CO) (a b : Ex)
  | cmp2 (o1 o2 : CO) (a b c : Ex)
  | ix (a i : Ex)
  | sl (a : Ex) (lp : Bool) (lo : Ex) (hp : Bool) (hi : Ex) (back : Bool)        -- lp, hp: there is such a part; back: [::-1]
  | call (f : Nat) (es : Es)
  | blt (b : Bl) (es : Es)
  | bm (m : Bm) (a : Ex) (es : Es)
  | isi (a : Ex) (ts : List Ty) (one : Bool)
  | pop (i : Nat) (es : Es)            -- the name's own list: pop(), pop(k)
  | lc (e : Ex) (own : List Nat) (tg : Tg) (it : Iter) (cs : Es)
  | fnv (f : Nat)                      -- a def as a value
  | callv (a : Ex) (es : Es)           -- a def that is a value, called
  | xat (f : Str) (a : Ex)             -- the field of an exception that is kept
  | isx (x : Str) (a : Ex)             -- isinstance of an exception that is kept
  | mkx (c : Nat) (es : Es)            -- an exception, made and held
  | stk                                -- not read: the evaluator stops here
inductive Es where
  | nil | cons (star : Bool) (e : Ex) (r : Es)
inductive Iter where
  | of (e : Ex) | range (es : Es) | enum (e : Ex) (k : Int) | zip (es : Es)
end

mutual
inductive St where
  | set (t : Tg) (e : Ex)
  | par (is : List Nat) (es : Es)      -- a, b = x, y of plain locals
  | setix (i : Nat) (k e : Ex)         -- own[k] = e
  | app (i : Nat) (e : Ex) | ext (i : Nat) (e : Ex)
  | ex (e : Ex) | ret (e : Ex) | ife (c : Ex) (a b : Ss)
  | for_ (tg : Tg) (it : Iter) (b : Ss) | whl (c : Ex) (b : Ss)
  | pass | brk | cont
  | raise (c : Nat) (e : Ex)
  | try_ (b : Ss) (c n m : Nat)        -- try: b except c as n: m = n
  | raise0 (c : Nat)
  | stk
inductive Ss where
  | nil | cons (s : St) (r : Ss)
end

structure Fn where
  n : Nat                 -- how many names
  np : Nat                -- how many parameters
  mu : List Nat           -- parameters that are changed
  vw : List Nat           -- parameters that are only looked at
  body : Ss

/-- what the evaluator knows of the text -/
structure G where
  fn : Nat → Option Fn
  glo : Nat → Option D
  xf : Nat → Option Str := fun _ => none             -- an exception class's field
  xs : Nat → Nat → Option Bool := fun _ _ => none    -- is an exception of the one class caught by the other one
  x0 : Nat → Bool := fun _ => false                  -- a class without values
  xi : Option Nat → Str → Option Bool := fun _ _ => none   -- isinstance of an exception, of None, by the name of the class

def num : D → Option Int
  | .int i => some i | .bl b => some (if b then 1 else 0) | _ => none
/-- the items of what is walked -/
def itemsOf : D → Option (List D)
  | .lst ds => some ds | .tup ds => some ds
  | .str s => some (s.cps.toList.map fun c => .str ⟨#[c]⟩)
  | _ => none
def truth : D → Option Bool
  | .non => some false | .bl b => some b | .int i => some (i != 0) | .str s => if s.length ≤ sizeLine then some (s.length != 0) else none
  | .lst ds => some (!ds.isEmpty) | .tup ds => some (!ds.isEmpty) | .dic ks _ => some (!ks.isEmpty)
  | _ => none
def eqD (a b : D) : Option Bool := match toP a, toP b with
  | some p, some q => if SeqAt.shaped p && SeqAt.shaped q then some (PyData.eqv p q) else none
  | _, _ => none
end Ev
end

section
set_option maxHeartbeats 0
namespace Ev
open PySem

inductive R (α : Type) where
  | ok (a : α) (ρ : Rho)
  | exc (x : D) (ρ : Rho)
def bnd {α β : Type} (x : Option (R α)) (f : α → Rho → Option (R β)) : Option (R β) := match x with
  | some (.ok a ρ) => f a ρ
  | some (.exc x ρ) => some (.exc x ρ)
  | none => none
/-- an operand: a value, or a name's own list, looked at where the operation is done -/
inductive Od where
  | c (c : Cell) | at_ (i : Nat)
def Od.d (ρ : Rho) : Od → Option D
  | .c x => some x.d
  | .at_ i => match ρ[i]? with | some (some x) => some x.d | _ => none
def odsD (ρ : Rho) : List Od → Option (List D)
  | [] => some []
  | o :: os => match o.d ρ, odsD ρ os with | some d, some ds => some (d :: ds) | _, _ => none
/-- a name read as a value: what is its own becomes everybody's -/
def rdV (i : Nat) (ρ : Rho) : Option (R Cell) := match ρ[i]? with
  | some (some (.fz d)) => some (.ok (.fz d) ρ)
  | some (some (.lst ds)) => some (.ok (.fz (.lst ds)) (ρ.set i (some (.fz (.lst ds)))))
  | some (some (.dic ks ds)) => some (.ok (.fz (.dic ks ds)) (ρ.set i (some (.fz (.dic ks ds)))))
  | _ => none
def opd (m : Ex) (r : Option (R Cell)) (ρ : Rho) : Option (R Od) := match m with
  | .var i => match ρ[i]? with
    | some (some (.fz d)) => some (.ok (.c (.fz d)) ρ)
    | some (some _) => some (.ok (.at_ i) ρ)
    | _ => none
  | _ => bnd r fun c ρ => some (.ok (.c c) ρ)
/-- returned: what is its own goes out -/
def mov (m : Ex) (r : Option (R Cell)) (ρ : Rho) : Option (R Cell) := match m with
  | .var i => match ρ[i]? with
    | some (some (.fz d)) => some (.ok (.fz d) ρ)
    | some (some (.lst ds)) => some (.ok (.lst ds) (ρ.set i none))
    | some (some (.dic ks ds)) => some (.ok (.dic ks ds) (ρ.set i none))
    | _ => none
  | _ => r
def wipeR (ρ : Rho) : List Nat → Rho
  | [] => ρ
  | v :: vs => (wipeR ρ vs).set v none
/-- the slots in vs as they were in ρ₀ -/
def backR (ρ₀ ρ : Rho) : List Nat → Rho
  | [] => ρ
  | v :: vs => (backR ρ₀ ρ vs).set v ((ρ₀[v]?).getD none)
/-- looked at, for a while -/
def lookR (ρ : Rho) : List Nat → Rho
  | [] => ρ
  | v :: vs => match ρ[v]? with
    | some (some (.lst ds)) => (lookR ρ vs).set v (some (.vw (.lst ds)))
    | some (some (.dic ks ds)) => (lookR ρ vs).set v (some (.vw (.dic ks ds)))
    | _ => lookR ρ vs
mutual
def asg : Tg → D → Rho → Option Rho
  | .name i, d, ρ => if i < ρ.length then some (ρ.set i (some (.fz d))) else none
  | .tup ts, d, ρ => match d with | .tup ds => asgs ts ds ρ | _ => none
def asgs : List Tg → List D → Rho → Option Rho
  | [], [], ρ => some ρ
  | t :: ts, d :: ds, ρ => match asg t d ρ with | some ρ => asgs ts ds ρ | none => none
  | _, _, _ => none
end
mutual
def tgs : Tg → List Nat
  | .name i => [i]
  | .tup ts => tgss ts
def tgss : List Tg → List Nat
  | [] => []
  | t :: ts => tgs t ++ tgss ts
end

abbrev small : Int := 2 ^ 64
def binD (o : BO) (a b : D) : Option Cell := match o, a, b with
  | .add, .int i, .int j => some (.fz (.int (i + j)))
  | .add, .str x, .str y => if x.length + y.length ≤ sizeLine then some (.fz (.str (x ++ y))) else none
  | .add, .lst x, .lst y => if x.length + y.length ≤ sizeLine then some (.lst (x ++ y)) else none
  | .add, .tup x, .tup y => if x.length + y.length ≤ sizeLine then some (.fz (.tup (x ++ y))) else none
  | .sub, .int i, .int j => some (.fz (.int (i - j)))
  | .mul, .int i, .int j => if ((-small < i && i < small) || (-small < j && j < small)) || decide (i.natAbs.log2 + j.natAbs.log2 < 1000000) then some (.fz (.int (i * j))) else none
  | .mul, .lst x, .int j => if -(2 ^ 63) ≤ j ∧ j < 2 ^ 63 ∧ x.length * j.toNat ≤ sizeLine then some (.lst (List.replicate j.toNat x).flatten) else none
  | .fdiv, .int i, .int j => if 0 < j ∧ j.natAbs.log2 < 9000 then some (.fz (.int (i / j))) else none
  | .mod, .int i, .int j => if 0 < j then some (.fz (.int (i % j))) else none
  | .pow, .int i, .int j => if 0 ≤ j ∧ j ≤ 1000000 ∧ i.natAbs < 2 ^ 64 then some (.fz (.int (i ^ j.toNat))) else none
  | _, _, _ => none
def ltD (a b : D) : Option Bool := match a, b with
  | .int i, .int j => some (decide (i < j))
  | .str x, .str y => some (decide (x.cps.toList < y.cps.toList))
  | .tup _, .tup _ => match toP a, toP b with
    | some p, some q => if PySem.W.alike p q && SeqAt.shaped p && SeqAt.shaped q then some (PySem.W.dataLt p q) else none
    | _, _ => none
  | _, _ => none
def inL (x : D) (mk : List PyData → PyData) (ds : List D) : Option Bool := match toP x, toPs ds with
  | some p, some ps => if SeqAt.shaped p && SeqAt.shaped (mk ps) then some (ps.any fun z => PyData.eqv z p) else none
  | _, _ => none
def inD (x d : D) : Option Bool := match d with
  | .str y => match x with | .str z => some (!(Builtin.Str.occurrences y z 0 y.length 1).isEmpty) | _ => none
  | .lst ds => inL x .list ds
  | .tup ds => inL x .tuple ds
  | _ => none
def strsL : List D → Option (List Str)
  | [] => some []
  | .str i :: ds => (strsL ds).map (i :: ·)
  | _ :: _ => none
/-- <= of tuples of texts -/
def leS : List Str → List Str → Bool
  | [], _ => true
  | _ :: _, [] => false
  | a :: l, b :: m => if a == b then leS l m else !decide (b.cps.toList < a.cps.toList)
def leT (x y : List D) : Option Bool := match strsL x, strsL y with | some l, some m => some (leS l m) | _, _ => none
def cmpD (o : CO) (a b : D) : Option Bool := match o with
  | .eq => eqD a b
  | .ne => (eqD a b).map (!·)
  | .lt => ltD a b
  | .gt => match a, b with | .int i, .int j => some (decide (j < i)) | .str x, .str y => some (decide (y.cps.toList < x.cps.toList)) | _, _ => none
  | .le => match a, b with
    | .int i, .int j => some (decide (i ≤ j))
    | .str x, .str y => some (!decide (y.cps.toList < x.cps.toList))
    | .tup x, .tup y => leT x y
    | _, _ => none
  | .ge => match a, b with | .int i, .int j => some (decide (j ≤ i)) | .str x, .str y => some (!decide (x.cps.toList < y.cps.toList)) | _, _ => none
  | .is => match b with | .non => (match a with | .non => some true | _ => some false) | _ => none
  | .isnot => match b with | .non => (match a with | .non => some false | _ => some true) | _ => none
  | .in_ => inD a b
  | .notin => (inD a b).map (!·)
/-- a place from either end -/
abbrev place (n : Nat) (i : Int) : Option Nat := L2.ixN n i
def ixD (a i : D) : Option D := match a, i with
  | .lst ds, .int i => match place ds.length i with | some j => ds[j]? | none => none
  | .tup ds, .int i => match place ds.length i with | some j => ds[j]? | none => none
  | .str x, .int i => if x.length ≤ sizeLine then (match place x.cps.toList.length i with | some j => (x.cps.toList[j]?).map fun c => .str ⟨#[c]⟩ | none => none) else none
  | _, _ => none
def cut {α : Type} (l : List α) (lo hi : Option Int) : List α := (l.drop (HT.sIx l.length 0 lo)).take (HT.sIx l.length l.length hi - HT.sIx l.length 0 lo)
def slD (a : D) (lo hi : Option Int) (back : Bool) : Option Cell := match back with
  | false => match a with
    | .lst ds => some (.lst (cut ds lo hi))
    | .tup ds => some (.fz (.tup (cut ds lo hi)))
    | .str x => if x.length ≤ sizeLine then some (.fz (.str (L2.cutS x lo hi))) else none
    | _ => none
  | true => match a, lo, hi with | .lst ds, none, none => some (.lst ds.reverse) | _, _, _ => none
def intsL : List D → Option (List Int)
  | [] => some []
  | .int i :: ds => (intsL ds).map (i :: ·)
  | _ :: _ => none
def boolsL : List D → Option (List Bool)
  | [] => some []
  | .bl i :: ds => (boolsL ds).map (i :: ·)
  | _ :: _ => none
def insL {α : Type} (le : α → α → Bool) (x : α) : List α → List α
  | [] => [x]
  | y :: l => if le x y then x :: y :: l else y :: insL le x l
def isort {α : Type} (le : α → α → Bool) : List α → List α
  | [] => []
  | x :: l => insL le x (isort le l)
def leP (p q : D) : Bool := match toP p, toP q with | some p, some q => !PySem.W.dataLt q p | _, _ => true
def isTupP : D → Bool | .tup (_ :: _) => true | _ => false
def noTup : D → Bool | .tup _ => false | .non => false | _ => true
def sortD (ds : List D) : Option (List D) := match toPs ds with
  | some ps => if (ps.all fun p => ps.all fun q => PySem.W.alike p q) && (ds.all isTupP || ds.all noTup) && ps.all SeqAt.shaped && decide (ds.length ≤ sizeLine) then some (isort leP ds) else none
  | none => none
def maxI : Int → List Int → Int
  | m, [] => m
  | m, i :: l => maxI (if m < i then i else m) l
def minI : Int → List Int → Int
  | m, [] => m
  | m, i :: l => minI (if i < m then i else m) l
def seqOf : D → Option (List D)
  | .lst ds => some ds | .tup ds => some ds | _ => none
def bltD (b : Bl) (ds : List D) : Option Cell := match b, ds with
  | .len, [.str x] => if x.length ≤ sizeLine then some (.fz (.int x.length)) else none
  | .len, [.lst l] => some (.fz (.int l.length))
  | .len, [.tup l] => some (.fz (.int l.length))
  | .abs, [.int i] => some (.fz (.int (if i < 0 then -i else i)))
  | .int, [.int i] => some (.fz (.int i))
  | .int, [.bl b] => some (.fz (.int (if b then 1 else 0)))
  | .int, [.str x] => if x.length ≤ 640 then (PySem.intText? x).map fun n => .fz (.int n) else none
  | .str, [.int i] => if i.natAbs.log2 < 1920 then some (.fz (.str (toString i))) else none
  | .max, [.int i, .int j] => some (.fz (.int (if j > i then j else i)))
  | .min, [.int i, .int j] => some (.fz (.int (if j < i then j else i)))
  | .max, [.lst l] => match intsL l with | some (i :: r) => some (.fz (.int (maxI i r))) | _ => none
  | .min, [.lst l] => match intsL l with | some (i :: r) => some (.fz (.int (minI i r))) | _ => none
  | .sum, [.lst l] => (intsL l).map fun l => .fz (.int l.sum)
  | .all, [.lst l] => (boolsL l).map fun l => .fz (.bl (l.all id))
  | .any, [.lst l] => (boolsL l).map fun l => .fz (.bl (l.any id))
  | .sorted, [.lst l] => (sortD l).map .lst
  | .tuple, [.lst l] => some (.fz (.tup l))
  | .tuple, [.tup l] => some (.fz (.tup l))
  | .tuple, [.str x] => if x.length ≤ sizeLine then some (.fz (.tup (x.cps.toList.map fun c => .str ⟨#[c]⟩))) else none
  | .list, [.lst l] => some (.lst l)
  | .list, [.tup l] => some (.lst l)
  | _, _ => none
def bmD (m : Bm) (a : D) (ds : List D) : Option Cell := match m, a, ds with
  | .join, .str x, [l] => match seqOf l with
    | some l => match strsL l with
      | some ys => if (ys.map Str.length).sum + x.length * ys.length ≤ 16777216 then some (.fz (.str (Txt.join x ys))) else none
      | none => none
    | none => none
  | .split, .str x, [.str y] => if (y.length == 0) = false ∧ x.length + 2 ≤ sizeLine then some (.lst ((Txt.split x y).map .str)) else none
  | _, _, _ => none
def isTy (d : D) : Ty → Bool
  | .int => match d with | .int _ => true | .bl _ => true | _ => false
  | .bool => match d with | .bl _ => true | _ => false
  | .str => match d with | .str _ => true | _ => false
  | .list => match d with | .lst _ => true | _ => false
  | .tuple => match d with | .tup _ => true | _ => false
  | .own c => match d with | .ins e _ => e == c | .exc e _ => e == c | _ => false
def plain : D → Bool | .non => true | .bl _ => true | .int _ => true | .str _ => true | .tup _ => true | .lst _ => true | _ => false

inductive Ag where
  | tmp (c : Cell) | lend (i : Nat) | look (i : Nat)
def Ag.cell (ρ : Rho) : Ag → Option Cell
  | .tmp c => some c
  | .lend i => match ρ[i]? with | some (some (.lst ds)) => some (.lst ds) | some (some (.dic ks ds)) => some (.dic ks ds) | _ => none
  | .look i => match ρ[i]? with
    | some (some (.fz d)) => some (.fz d)
    | some (some (.vw d)) => some (.vw d)
    | some (some (.lst ds)) => some (.vw (.lst ds))
    | some (some (.dic ks ds)) => some (.vw (.dic ks ds))
    | _ => none
def agCells (ρ : Rho) : List Ag → Option (List Cell)
  | [] => some []
  | a :: as => match a.cell ρ, agCells ρ as with | some c, some cs => some (c :: cs) | _, _ => none
def lends : List Ag → List Nat
  | [] => []
  | .lend i :: as => i :: lends as
  | _ :: as => lends as
def looks : List Ag → List Nat
  | [] => []
  | .look i :: as => i :: looks as
  | _ :: as => looks as
def isOwn : Cell → Bool | .lst _ => true | .dic _ _ => true | _ => false
/-- the lent cells come back -/
def giveBack (ρ ρc : Rho) : Nat → List Ag → Option Rho
  | _, [] => some ρ
  | j, .lend i :: as => match ρc[j]? with
    | some (some c) => if isOwn c then (giveBack ρ ρc (j + 1) as).map (·.set i (some c)) else none
    | _ => none
  | j, _ :: as => giveBack ρ ρc (j + 1) as
/-- an argument, by how the parameter takes it -/
def argOf (fd : Fn) (j : Nat) (m : Ex) (r : Option (R Cell)) (ρ : Rho) : Option (R Ag) := match m with
  | .var i => match ρ[i]? with
    | some (some (.fz d)) => some (.ok (.tmp (.fz d)) ρ)
    | some (some (.vw d)) => if fd.vw.contains j then some (.ok (.look i) ρ) else none
    | some (some c) => if fd.mu.contains j then some (.ok (.lend i) ρ) else if fd.vw.contains j then some (.ok (.look i) ρ) else bnd r fun c ρ => some (.ok (.tmp (.fz c.d)) ρ)
    | _ => none
  | _ => bnd r fun c ρ => some (.ok (.tmp (if fd.mu.contains j then c else .fz c.d)) ρ)
def callBy (cl : Nat → List Cell → Option (R Cell)) (f : Nat) (fd : Fn) (as : List Ag) (ρ : Rho) : Option (R Cell) :=
  if as.length = fd.np ∧ (lends as).Nodup ∧ (∀ i ∈ looks as, i ∉ lends as) then
    match agCells ρ as with
    | some cs => match cl f cs with
      | some (.ok c ρc) => match giveBack ρ ρc 0 as with | some ρ => some (.ok c ρ) | none => none
      | some (.exc x ρc) => match giveBack ρ ρc 0 as with | some ρ => some (.exc x ρ) | none => none
      | none => none
    | none => none
  else none

def rngI (lo : Int) (n : Nat) : List D := (List.range n).map fun i => .int (lo + (i : Nat))
def zipL : List D → List D → List D
  | a :: as, b :: bs => .tup [a, b] :: zipL as bs
  | _, _ => []
def zip3 : List D → List D → List D → List D
  | a :: as, b :: bs, c :: cs => .tup [a, b, c] :: zip3 as bs cs
  | _, _, _ => []
def enumL : Int → List D → List D
  | _, [] => []
  | k, d :: ds => .tup [.int k, d] :: enumL (k + 1) ds
def okR (j : Int) : Bool := -(2 ^ 62) ≤ j && j < 2 ^ 62
def rangeD : List D → Option (List D)
  | [.int j] => if okR j then some (rngI 0 j.toNat) else none
  | [.int i, .int j] => if okR i && okR j then some (rngI i (j - i).toNat) else none
  | _ => none
def odLook : List Od → List Nat
  | [] => []
  | .at_ i :: os => i :: odLook os
  | _ :: os => odLook os
def zipD : List D → Option (List D)
  | [a, b] => match itemsOf a, itemsOf b with | some x, some y => some (zipL x y) | _, _ => none
  | [a, b, c] => match itemsOf a, itemsOf b, itemsOf c with | some x, some y, some z => some (zip3 x y z) | _, _, _ => none
  | _ => none

/-- a list comprehension's turns -/
def lcL (own : List Nat) (f : D → Rho → Option (R (Option D))) : List D → List D → Rho → Option (R (List D))
  | [], acc, ρ => some (.ok acc ρ)
  | d :: ds, acc, ρ => match f d (wipeR ρ own) with
    | some (.ok (some y) ρ') => if acc.length < sizeLine then lcL own f ds (acc ++ [y]) ρ' else none
    | some (.ok none ρ') => lcL own f ds acc ρ'
    | _ => none

def ap1 (a : Option D) (f : D → Option Cell) (ρ : Rho) : Option (R Cell) := match a with
  | some d => (f d).map fun c => .ok c ρ
  | none => none
def ap2 (a b : Option D) (f : D → D → Option Cell) (ρ : Rho) : Option (R Cell) := match a, b with
  | some d, some e => (f d e).map fun c => .ok c ρ
  | _, _ => none
def apL (a : Option (List D)) (f : List D → Option Cell) (ρ : Rho) : Option (R Cell) := match a with
  | some d => (f d).map fun c => .ok c ρ
  | none => none
def evPart (p : Bool) (r : Option (R Cell)) (ρ : Rho) : Option (R (Option Int)) := if p then bnd r fun c ρ => (match c.d with | .int i => some (.ok (some i) ρ) | _ => none) else some (.ok none ρ)
/-- what a method is asked of -/
def recv : Bm → D → Bool
  | .join, .str _ => true
  | .split, .str _ => true
  | _, _ => false
/-- the name's own list -/
def isLst (ρ : Rho) (i : Nat) : Bool := match ρ[i]? with | some (some (.lst _)) => true | _ => false
def isiD (ts : List Ty) (d : D) : Option Cell := if plain d then some (.fz (.bl (ts.any (isTy d)))) else none
def fnD : D → Option Nat | .fn f => some f | _ => none
/-- the field of an exception -/
def xatD (xf : Nat → Option Str) (f : Str) : D → Option Cell
  | .exc c [v] => if xf c = some f then some (.fz v) else none
  | _ => none
/-- isinstance -/
def isxD (xi : Option Nat → Str → Option Bool) (x : Str) : D → Option Cell
  | .exc c _ => (xi (some c) x).map fun b => .fz (.bl b)
  | .non => (xi none x).map fun b => .fz (.bl b)
  | _ => none
/-- the values of an exception that is made -/
def mkxD (z : Bool) (ds : List D) : Option (List D) := match z, ds with
  | true, [] => some [.tup []]
  | false, [v] => some [v]
  | _, _ => none
mutual
def evE (g : G) (cl : Nat → List Cell → Option (R Cell)) : Ex → Rho → Option (R Cell)
  | .var i, ρ => rdV i ρ
  | .glo x, ρ => (g.glo x).map fun d => .ok (.fz d) ρ
  | .k d, ρ => some (.ok (.fz d) ρ)
  | .tup es, ρ => bnd (evD g cl es ρ) fun ds ρ => if ds.length ≤ sizeLine then some (.ok (.fz (.tup ds)) ρ) else none
  | .lst es, ρ => bnd (evD g cl es ρ) fun ds ρ => if ds.length ≤ sizeLine then some (.ok (.lst ds) ρ) else none
  | .bin o a b, ρ => bnd (opd a (evE g cl a ρ) ρ) fun x ρ => bnd (opd b (evE g cl b ρ) ρ) fun y ρ =>
      ap2 (x.d ρ) (y.d ρ) (binD o) ρ
  | .neg a, ρ => bnd (evE g cl a ρ) fun c ρ => match c with | .fz (.int i) => some (.ok (.fz (.int (-i))) ρ) | _ => none
  | .not a, ρ => bnd (opd a (evE g cl a ρ) ρ) fun x ρ => ap1 (x.d ρ) (fun d => (truth d).map fun t => .fz (.bl (!t))) ρ
  | .and es, ρ => evAnd g cl es ρ
  | .or es, ρ => evOr g cl es ρ
  | .ife c a b, ρ => bnd (opd c (evE g cl c ρ) ρ) fun x ρ => match x.d ρ with
      | some d => match truth d with | some true => evE g cl a ρ | some false => evE g cl b ρ | none => none
      | none => none
  | .cmp o a b, ρ => bnd (opd a (evE g cl a ρ) ρ) fun x ρ => bnd (opd b (evE g cl b ρ) ρ) fun y ρ =>
      ap2 (x.d ρ) (y.d ρ) (fun d e => (cmpD o d e).map fun t => .fz (.bl t)) ρ
  | .cmp2 o1 o2 a b c, ρ => bnd (evE g cl a ρ) fun x ρ => bnd (evE g cl b ρ) fun y ρ =>
      match cmpD o1 x.d y.d with
      | some true => bnd (evE g cl c ρ) fun z ρ => (cmpD o2 y.d z.d).map fun t => .ok (.fz (.bl t)) ρ
      | some false => some (.ok (.fz (.bl false)) ρ)
      | none => none
  | .ix a i, ρ => bnd (opd a (evE g cl a ρ) ρ) fun x ρ => bnd (opd i (evE g cl i ρ) ρ) fun y ρ => ap2 (x.d ρ) (y.d ρ) (fun d e => (ixD d e).map .fz) ρ
  | .sl a lp lo hp hi back, ρ => bnd (opd a (evE g cl a ρ) ρ) fun x ρ => bnd (evPart lp (evE g cl lo ρ) ρ) fun l ρ => bnd (evPart hp (evE g cl hi ρ) ρ) fun h ρ => ap1 (x.d ρ) (fun d => slD d l h back) ρ
  | .call f es, ρ => match g.fn f with
      | some fd => bnd (evA g cl fd 0 es ρ) fun as ρ => callBy cl f fd as ρ
      | none => none
  | .blt b es, ρ => bnd (evO g cl es ρ) fun os ρ => apL (odsD ρ os) (bltD b) ρ
  | .bm m a es, ρ => bnd (opd a (evE g cl a ρ) ρ) fun x ρ => if (x.d ρ).any (recv m) then bnd (evO g cl es ρ) fun os ρ => ap1 (x.d ρ) (fun d => (odsD ρ os).bind (bmD m d)) ρ else none
  | .isi a ts _, ρ => bnd (opd a (evE g cl a ρ) ρ) fun x ρ => ap1 (x.d ρ) (isiD ts) ρ
  | .stk, _ => none
  | .fnv f, ρ => some (.ok (.fz (.fn f)) ρ)
  | .callv a es, ρ => bnd (evE g cl a ρ) fun c ρ => match fnD c.d with
      | some f => match g.fn f with
        | some fd => bnd (evA g cl fd 0 es ρ) fun as ρ => callBy cl f fd as ρ
        | none => none
      | none => none
  | .xat c a, ρ => bnd (opd a (evE g cl a ρ) ρ) fun x ρ => ap1 (x.d ρ) (xatD g.xf c) ρ
  | .pop i es, ρ => if !isLst ρ i then none else bnd (evD g cl es ρ) fun ds ρ => match ρ[i]?, ds with
      | some (some (.lst l)), [] => (l[l.length - 1]?).map fun d => .ok (.fz d) (ρ.set i (some (.lst l.dropLast)))
      | some (some (.lst l)), [.int k] => match (if -(2 ^ 63) ≤ k ∧ k < 2 ^ 63 then place l.length k else none) with
          | some j => (l[j]?).map fun d => .ok (.fz d) (ρ.set i (some (.lst (l.eraseIdx j))))
          | none => none
      | _, _ => none
  | .lc e own tg it cs, ρ => bnd (evI g cl it ρ) fun r ρ =>
      match lcL own (fun d ρ => match asg tg d ρ with
          | some ρ => match evAnd g cl cs ρ with
              | some (.ok c ρ) => match truth c.d with
                  | some true => bnd (evE g cl e ρ) fun y ρ => some (.ok (some y.d) ρ)
                  | some false => some (.ok none ρ)
                  | none => none
              | _ => none
          | none => none) r.1 [] (lookR ρ r.2) with
      | some (.ok l ρ') => if (tgs tg).all own.contains then some (.ok (.lst l) (backR ρ (backR ρ ρ' r.2) own)) else none
      | _ => none
  | .isx x a, ρ => bnd (opd a (evE g cl a ρ) ρ) fun o ρ => ap1 (o.d ρ) (isxD g.xi x) ρ
  | .mkx c es, ρ => bnd (evD g cl es ρ) fun ds ρ => match mkxD (g.x0 c) ds with
      | some fs => some (.ok (.fz (.exc c fs)) ρ)
      | none => none
/-- a display's items -/
def evD (g : G) (cl : Nat → List Cell → Option (R Cell)) : Es → Rho → Option (R (List D))
  | .nil, ρ => some (.ok [] ρ)
  | .cons false e r, ρ => bnd (evE g cl e ρ) fun c ρ => bnd (evD g cl r ρ) fun ds ρ => some (.ok (c.d :: ds) ρ)
  | .cons true e r, ρ => bnd (opd e (evE g cl e ρ) ρ) fun x ρ => match (x.d ρ).bind itemsOf with
      | some l => bnd (evD g cl r ρ) fun ds ρ => some (.ok (l ++ ds) ρ)
      | none => none
/-- operands -/
def evO (g : G) (cl : Nat → List Cell → Option (R Cell)) : Es → Rho → Option (R (List Od))
  | .nil, ρ => some (.ok [] ρ)
  | .cons _ e r, ρ => bnd (opd e (evE g cl e ρ) ρ) fun x ρ => bnd (evO g cl r ρ) fun xs ρ => some (.ok (x :: xs) ρ)
/-- arguments of a def -/
def evA (g : G) (cl : Nat → List Cell → Option (R Cell)) (fd : Fn) : Nat → Es → Rho → Option (R (List Ag))
  | _, .nil, ρ => some (.ok [] ρ)
  | j, .cons _ e r, ρ => bnd (argOf fd j e (evE g cl e ρ) ρ) fun x ρ => bnd (evA g cl fd (j + 1) r ρ) fun xs ρ => some (.ok (x :: xs) ρ)
def evAnd (g : G) (cl : Nat → List Cell → Option (R Cell)) : Es → Rho → Option (R Cell)
  | .nil, ρ => some (.ok (.fz (.bl true)) ρ)
  | .cons _ e .nil, ρ => evE g cl e ρ
  | .cons _ e r, ρ => bnd (evE g cl e ρ) fun c ρ => match truth c.d with
      | some true => evAnd g cl r ρ
      | some false => some (.ok c ρ)
      | none => none
def evOr (g : G) (cl : Nat → List Cell → Option (R Cell)) : Es → Rho → Option (R Cell)
  | .nil, ρ => some (.ok (.fz (.bl false)) ρ)
  | .cons _ e .nil, ρ => evE g cl e ρ
  | .cons _ e r, ρ => bnd (evE g cl e ρ) fun c ρ => match truth c.d with
      | some true => some (.ok c ρ)
      | some false => evOr g cl r ρ
      | none => none
/-- what is walked: its items, the names that are only looked at meanwhile -/
def evI (g : G) (cl : Nat → List Cell → Option (R Cell)) : Iter → Rho → Option (R (List D × List Nat))
  | .of e, ρ => bnd (opd e (evE g cl e ρ) ρ) fun x ρ => match (x.d ρ).bind itemsOf with
      | some l => some (.ok (l, odLook [x]) ρ)
      | none => none
  | .range es, ρ => bnd (evD g cl es ρ) fun ds ρ => (rangeD ds).map fun l => .ok (l, []) ρ
  | .enum e k, ρ => bnd (opd e (evE g cl e ρ) ρ) fun x ρ => match (x.d ρ).bind itemsOf with
      | some l => some (.ok (enumL k l, odLook [x]) ρ)
      | none => none
  | .zip es, ρ => bnd (evO g cl es ρ) fun xs ρ => match (odsD ρ xs).bind zipD with
      | some l => some (.ok (l, odLook xs) ρ)
      | none => none
end
end Ev
end

section
set_option maxHeartbeats 0
namespace Ev
open PySem

inductive O where
  | nx (ρ : Rho) | rt (c : Cell) (ρ : Rho) | bk (ρ : Rho) | ct (ρ : Rho) | ex (x : D) (ρ : Rho)

def bnO {α : Type} (x : Option (R α)) (f : α → Rho → Option O) : Option O := match x with
  | some (.ok a ρ) => f a ρ
  | some (.exc x ρ) => some (.ex x ρ)
  | none => none
/-- a target by its cell: pr are the names that may not be bound anew -/
def setC (pr : List Nat) (i : Nat) (c : Cell) (ρ : Rho) : Option Rho := if pr.contains i || !decide (i < ρ.length) then none else some (ρ.set i (some c))
def asgC (pr : List Nat) : Tg → Cell → Rho → Option Rho
  | .name i, c, ρ => setC pr i c ρ
  | .tup ts, c, ρ => if (tgss ts).any pr.contains then none else asg (.tup ts) c.d ρ
def setCs (pr : List Nat) : List Nat → List Cell → Rho → Option Rho
  | [], [], ρ => some ρ
  | i :: is, c :: cs, ρ => match setC pr i c ρ with | some ρ => setCs pr is cs ρ | none => none
  | _, _, _ => none
def evCs (g : G) (cl : Nat → List Cell → Option (R Cell)) : Es → Rho → Option (R (List Cell))
  | .nil, ρ => some (.ok [] ρ)
  | .cons _ e r, ρ => bnd (evE g cl e ρ) fun c ρ => bnd (evCs g cl r ρ) fun cs ρ => some (.ok (c :: cs) ρ)
/-- own[k] = d -/
def setIx (c : Cell) (k d : D) : Option Cell := match c, k with
  | .lst l, .int i => match place l.length i with | some j => some (.lst (l.set j d)) | none => none
  | _, _ => none
def appC (c : Cell) (d : D) : Option Cell := match c with
  | .lst l => if l.length < sizeLine then some (.lst (l ++ [d])) else none
  | _ => none
def extC (c : Cell) (d : D) : Option Cell := match c, seqOf d with
  | .lst l, some m => if l.length + m.length ≤ sizeLine then some (.lst (l ++ m)) else none
  | _, _ => none
def updC (i : Nat) (f : Cell → Option Cell) (ρ : Rho) : Option O := match ρ[i]? with
  | some (some c) => if isOwn c then (f c).map fun c => .nx (ρ.set i (some c)) else none
  | _ => none

def forL (f : D → Rho → Option O) : List D → Rho → Option O
  | [], ρ => some (.nx ρ)
  | d :: ds, ρ => match f d ρ with
    | some (.nx ρ) => forL f ds ρ
    | some (.ct ρ) => forL f ds ρ
    | some (.bk ρ) => some (.nx ρ)
    | r => r
def whlL (c : Rho → Option (R Bool)) (b : Rho → Option O) : Nat → Rho → Option O
  | 0, _ => none
  | n + 1, ρ => bnO (c ρ) fun t ρ => if t then (match b ρ with
      | some (.nx ρ) => whlL c b n ρ
      | some (.ct ρ) => whlL c b n ρ
      | some (.bk ρ) => some (.nx ρ)
      | r => r) else some (.nx ρ)
def tst (g : G) (cl : Nat → List Cell → Option (R Cell)) (c : Ex) (ρ : Rho) : Option (R Bool) :=
  bnd (opd c (evE g cl c ρ) ρ) fun x ρ => match x.d ρ with
    | some d => (truth d).map fun t => .ok t ρ
    | none => none
/-- what a for walks: nobody changes it from then on -/
def frzO : List Od → Rho → Option Rho
  | [], ρ => some ρ
  | .at_ i :: os, ρ => match ρ[i]? with
    | some (some (.vw _)) => frzO os ρ
    | some (some c) => frzO os (ρ.set i (some (.fz c.d)))
    | _ => none
  | _ :: os, ρ => frzO os ρ
def frzI (ls : List Nat) (ρ : Rho) : Option Rho := frzO (ls.map .at_) ρ

/-- an exception that is caught and kept -/
def keepX (g : G) (pr : List Nat) (c nn m : Nat) : Option O → Option O
  | some (.ex (.exc c' fs) ρ) => match g.xs c' c with
    | some true => if pr.contains nn || nn == m then none else (setC pr m (.fz (.exc c' fs)) ρ).map fun ρ => .nx (ρ.set nn none)
    | some false => some (.ex (.exc c' fs) ρ)
    | none => none
  | r => r
mutual
def evS (g : G) (cl : Nat → List Cell → Option (R Cell)) (n : Nat) (pr : List Nat) : St → Rho → Option O
  | .set t e, ρ => bnO (evE g cl e ρ) fun c ρ => (asgC pr t c ρ).map .nx
  | .par is es, ρ => bnO (evCs g cl es ρ) fun cs ρ => (setCs pr is cs ρ).map .nx
  | .setix i k e, ρ => if !isLst ρ i then none else bnO (evE g cl e ρ) fun c ρ => bnO (evE g cl k ρ) fun kc ρ => updC i (fun x => setIx x kc.d c.d) ρ
  | .stk, _ => none
  | .app i e, ρ => if !isLst ρ i then none else bnO (evE g cl e ρ) fun c ρ => updC i (fun x => appC x c.d) ρ
  | .ext i e, ρ => if !isLst ρ i then none else bnO (evE g cl e ρ) fun c ρ => updC i (fun x => extC x c.d) ρ
  | .ex e, ρ => bnO (evE g cl e ρ) fun _ ρ => some (.nx ρ)
  | .ret e, ρ => bnO (mov e (evE g cl e ρ) ρ) fun c ρ => some (.rt c ρ)
  | .ife c a b, ρ => bnO (tst g cl c ρ) fun t ρ => if t then evSs g cl n pr a ρ else evSs g cl n pr b ρ
  | .for_ tg it b, ρ => bnO (evI g cl it ρ) fun r ρ => if (tgs tg).any pr.contains then none else
      match frzI r.2 ρ with
      | some ρ => forL (fun d ρ => match asg tg d ρ with | some ρ => evSs g cl n pr b ρ | none => none) r.1 ρ
      | none => none
  | .whl c b, ρ => whlL (fun ρ => tst g cl c ρ) (fun ρ => evSs g cl n pr b ρ) n ρ
  | .pass, ρ => some (.nx ρ)
  | .raise c e, ρ => bnO (evD g cl (.cons false e .nil) ρ) fun ds ρ => some (.ex (.exc c ds) ρ)
  | .try_ b c nn m, ρ => keepX g pr c nn m (evSs g cl n pr b ρ)
  | .brk, ρ => some (.bk ρ)
  | .cont, ρ => some (.ct ρ)
  | .raise0 c, ρ => if g.x0 c then some (.ex (.exc c [.tup []]) ρ) else none
def evSs (g : G) (cl : Nat → List Cell → Option (R Cell)) (n : Nat) (pr : List Nat) : Ss → Rho → Option O
  | .nil, ρ => some (.nx ρ)
  | .cons s r, ρ => match evS g cl n pr s ρ with
    | some (.nx ρ) => evSs g cl n pr r ρ
    | r => r
end

def finO (x : Option O) : Option (R Cell) := match x with
  | some (.nx ρ) => some (.ok (.fz .non) ρ)
  | some (.rt c ρ) => some (.ok c ρ)
  | some (.ex x ρ) => some (.exc x ρ)
  | _ => none
/-- a call: k deep, loops of n turns -/
def evCall (g : G) (n : Nat) : Nat → Nat → List Cell → Option (R Cell)
  | 0, _, _ => none
  | k + 1, f, cs => match g.fn f with
    | some fd => if cs.length = fd.np ∧ fd.np ≤ fd.n then finO (evSs g (evCall g n k) n fd.mu fd.body (cs.map some ++ List.replicate (fd.n - fd.np) none)) else none
    | none => none
end Ev
end

section
set_option maxHeartbeats 0
namespace Ev
open PySem PySem.Spec PyProof.Rows L2

def le (F F' : Hp) : Prop := ∀ a o, F a = some o → F' a = some o
theorem le.refl (F : Hp) : le F F := fun _ _ h => h
theorem le.trans {F G H : Hp} (h : le F G) (k : le G H) : le F H := fun a o e => k a o (h a o e)
theorem le.upd {F : Hp} {a : Addr} {o : HO} (h : F a = none) : le F (L2.upd F a o) := fun b u e => by
  rw [upd_ne (ne_of_none e h)]; exact e
theorem le.upd2 {F H : Hp} {a : Addr} {o : HO} (h : le F H) : le (L2.upd F a o) (L2.upd H a o) := fun b u e => by
  by_cases hb : b = a
  · subst hb; rw [upd_same] at e ⊢; exact e
  · rw [upd_ne hb] at e ⊢; exact h b u e
theorem le.updR {F H : Hp} {a : Addr} {o : HO} (h : le F H) (hn : F a = none) : le F (L2.upd H a o) := fun b u e => by
  have hb : b ≠ a := ne_of_none e hn
  rw [upd_ne hb]; exact h b u e
theorem Rd.le {F H : Hp} {a : Addr} {o : HO} (h : le F H) (r : Rd F a o) : Rd H a o := by
  rcases r with r | ⟨u, r⟩
  · exact .inl (h _ _ r)
  · exact .inr ⟨u, h _ _ r⟩
theorem SqL.le {K : PySem.W.Frag} {F H : Hp} {a : Addr} {xs : List V} (h : le F H) (r : SqL K F a xs) : SqL K H a xs := by
  rcases r with r | r
  · exact .inl (Rd.le h r)
  · exact .inr r
theorem SqT.le {K : PySem.W.Frag} {F H : Hp} {a : Addr} {xs : List V} (h : le F H) (r : SqT K F a xs) : SqT K H a xs := by
  rcases r with r | r
  · exact .inl (Rd.le h r)
  · exact .inr r

/-- where things stand: the written part, the defs, the classes; an exception class's fields -/
structure Mx where
  K : PySem.W.Frag
  fa : Nat → Option Addr
  ca : Nat → Option Addr
  xf : Nat → List Str
/-- an exception that is kept: its class, its dict -/
def KeptX (C d a : Addr) : HO := .ext fun h => ∃ (oe : Obj) (vs : Array Value), h.get? a = some oe ∧ Zc (.ref C) (some d) oe ∧ oe.data = .fields vs
section
variable (M : Mx)
mutual
/-- the value v is worth d, by what nobody changes -/
def RepF (F : Hp) : D → V → Prop
  | .non, v => v = .non
  | .bl b, v => v = .bl b
  | .int i, v => v = .int i
  | .str s, v => v = .str s
  | .tup ds, v => ∃ a vs, v = .ref a ∧ SqT M.K F a vs ∧ RepsF F ds vs
  | .lst ds, v => ∃ a vs, v = .ref a ∧ SqL M.K F a vs ∧ RepsF F ds vs
  | .fn f, v => ∃ a, M.fa f = some a ∧ v = .ref a
  | .dic ks ds, v => ∃ a vs, v = .ref a ∧ F a = some (.dK (ks.zip vs)) ∧ ks.length = vs.length ∧ RepsF F ds vs
  | .ins c ds, v => ∃ a C dx vs, v = .ref a ∧ M.ca c = some C ∧ F a = some (SlX.SlO a C dx (vs.map some)) ∧ F dx = some (.xd []) ∧ RepsF F ds vs
  | .exc c ds, v => ∃ a C d vs, v = .ref a ∧ M.ca c = some C ∧ F a = some (KeptX C d a) ∧ F d = some (.xd ((M.xf c).zip vs)) ∧ (M.xf c).length = vs.length ∧ RepsF F ds vs
def RepsF (F : Hp) : List D → List V → Prop
  | [], vs => vs = []
  | d :: ds, vs => ∃ v r, vs = v :: r ∧ RepF F d v ∧ RepsF F ds r
end
end
section
variable {M : Mx}
mutual
theorem RepF.mono {F F' : Hp} (h : le F F') : ∀ (d : D) (v : V), RepF M F d v → RepF M F' d v
  | .non, _, e => e
  | .bl _, _, e => e
  | .int _, _, e => e
  | .str _, _, e => e
  | .tup ds, _, ⟨a, vs, e, q, r⟩ => ⟨a, vs, e, SqT.le h q, RepsF.mono h ds vs r⟩
  | .lst ds, _, ⟨a, vs, e, q, r⟩ => ⟨a, vs, e, SqL.le h q, RepsF.mono h ds vs r⟩
  | .fn _, _, e => e
  | .dic ks ds, _, ⟨a, vs, e, q, l, r⟩ => ⟨a, vs, e, h _ _ q, l, RepsF.mono h ds vs r⟩
  | .ins c ds, _, ⟨a, C, dx, vs, e, ec, q, qd, r⟩ => ⟨a, C, dx, vs, e, ec, h _ _ q, h _ _ qd, RepsF.mono h ds vs r⟩
  | .exc c ds, _, ⟨a, C, d, vs, e, ec, q, qd, l, r⟩ => ⟨a, C, d, vs, e, ec, h _ _ q, h _ _ qd, l, RepsF.mono h ds vs r⟩
theorem RepsF.mono {F F' : Hp} (h : le F F') : ∀ (ds : List D) (vs : List V), RepsF M F ds vs → RepsF M F' ds vs
  | [], _, e => e
  | d :: ds, _, ⟨v, r, e, x, y⟩ => ⟨v, r, e, RepF.mono h d v x, RepsF.mono h ds r y⟩
end
theorem RepsF.len {F : Hp} : ∀ {ds : List D} {vs : List V}, RepsF M F ds vs → ds.length = vs.length
  | [], _, e => by rw [show _ = [] from e] <;> rfl
  | d :: ds, _, ⟨v, r, e, _, y⟩ => by rw [e, List.length_cons, List.length_cons, RepsF.len y]
theorem RepsF.nil {F : Hp} : RepsF M F [] [] := rfl
theorem RepsF.cons {F : Hp} {d : D} {v : V} {ds : List D} {vs : List V} (h : RepF M F d v) (t : RepsF M F ds vs) : RepsF M F (d :: ds) (v :: vs) := ⟨v, vs, rfl, h, t⟩
theorem RepsF.app {F : Hp} : ∀ {ds es : List D} {vs ws : List V}, RepsF M F ds vs → RepsF M F es ws → RepsF M F (ds ++ es) (vs ++ ws)
  | [], _, _, _, e, h => by rw [show _ = [] from e]; exact h
  | d :: ds, _, _, _, ⟨v, r, e, x, y⟩, h => by subst e; exact ⟨v, _, rfl, x, RepsF.app y h⟩
theorem RepsF.get {F : Hp} : ∀ {ds : List D} {vs : List V} {i : Nat} {d : D}, RepsF M F ds vs → ds[i]? = some d → ∃ v, vs[i]? = some v ∧ RepF M F d v
  | [], _, _, _, _, e => by simp at e
  | d :: ds, _, 0, _, ⟨v, r, e, x, _⟩, q => by subst e; simp at q; subst q; exact ⟨v, rfl, x⟩
  | d :: ds, _, i + 1, _, ⟨v, r, e, _, y⟩, q => by
    subst e
    obtain ⟨w, h1, h2⟩ := RepsF.get (i := i) y (by simpa using q)
    exact ⟨w, by simpa using h1, h2⟩
theorem RepsF.getV {F : Hp} : ∀ {ds : List D} {vs : List V} {i : Nat} {v : V}, RepsF M F ds vs → vs[i]? = some v → ∃ d, ds[i]? = some d ∧ RepF M F d v := fun {ds vs i v} h e => by
  have hl := h.len
  have hi := (List.getElem?_eq_some_iff.mp e).1
  obtain ⟨w, h1, h2⟩ := h.get (i := i) (d := ds[i]'(by omega)) (by simp [hl, hi])
  rw [e] at h1; cases h1
  exact ⟨_, by simp [hl, hi], h2⟩
theorem RepsF.take {F : Hp} : ∀ {ds : List D} {vs : List V} (n : Nat), RepsF M F ds vs → RepsF M F (ds.take n) (vs.take n)
  | [], _, n, e => by rw [show _ = [] from e, List.take_nil, List.take_nil]; exact rfl
  | d :: ds, _, 0, h => by rw [List.take_zero, List.take_zero]; exact rfl
  | d :: ds, _, n + 1, ⟨v, r, e, x, y⟩ => by subst e; exact ⟨v, _, rfl, x, RepsF.take n y⟩
theorem RepsF.drop {F : Hp} : ∀ {ds : List D} {vs : List V} (n : Nat), RepsF M F ds vs → RepsF M F (ds.drop n) (vs.drop n)
  | [], _, n, e => by rw [show _ = [] from e, List.drop_nil, List.drop_nil]; exact rfl
  | d :: ds, _, 0, h => h
  | d :: ds, _, n + 1, ⟨v, r, e, x, y⟩ => by subst e; exact RepsF.drop n y
theorem RepsF.set {F : Hp} {e : D} {w : V} (hw : RepF M F e w) : ∀ {ds : List D} {vs : List V} (i : Nat), RepsF M F ds vs → RepsF M F (ds.set i e) (vs.set i w)
  | [], _, n, e => by rw [show _ = [] from e]; exact rfl
  | d :: ds, _, 0, ⟨v, r, q, x, y⟩ => by subst q; exact ⟨w, _, rfl, hw, y⟩
  | d :: ds, _, n + 1, ⟨v, r, q, x, y⟩ => by subst q; exact ⟨v, _, rfl, x, RepsF.set hw n y⟩
theorem RepsF.eraseIdx {F : Hp} : ∀ {ds : List D} {vs : List V} (i : Nat), RepsF M F ds vs → RepsF M F (ds.eraseIdx i) (vs.eraseIdx i)
  | [], _, n, e => by rw [show _ = [] from e]; exact rfl
  | d :: ds, _, 0, ⟨v, r, q, x, y⟩ => by subst q; exact y
  | d :: ds, _, n + 1, ⟨v, r, q, x, y⟩ => by subst q; exact ⟨v, _, rfl, x, RepsF.eraseIdx n y⟩
theorem RepsF.ints {F : Hp} : ∀ {ds : List D} {vs : List V} {is : List Int}, RepsF M F ds vs → intsL ds = some is → vs = is.map V.int
  | [], _, _, e, q => by rw [show _ = [] from e]; simp [intsL] at q; subst q; rfl
  | .int i :: ds, _, is, ⟨v, r, e, x, y⟩, q => by
    subst e
    simp only [intsL, Option.map_eq_some_iff] at q
    obtain ⟨l, hl, rfl⟩ := q
    rw [RepsF.ints y hl, show v = V.int i from x]; rfl
  | .non :: _, _, _, _, q => by simp [intsL] at q
  | .bl _ :: _, _, _, _, q => by simp [intsL] at q
  | .str _ :: _, _, _, _, q => by simp [intsL] at q
  | .tup _ :: _, _, _, _, q => by simp [intsL] at q
  | .lst _ :: _, _, _, _, q => by simp [intsL] at q
  | .dic _ _ :: _, _, _, _, q => by simp [intsL] at q
  | .ins _ _ :: _, _, _, _, q => by simp [intsL] at q
  | .exc _ _ :: _, _, _, _, q => by simp [intsL] at q
  | .fn _ :: _, _, _, _, q => by simp [intsL] at q
theorem RepsF.bools {F : Hp} : ∀ {ds : List D} {vs : List V} {is : List Bool}, RepsF M F ds vs → boolsL ds = some is → vs = is.map V.bl
  | [], _, _, e, q => by rw [show _ = [] from e]; simp [boolsL] at q; subst q; rfl
  | .bl i :: ds, _, is, ⟨v, r, e, x, y⟩, q => by
    subst e
    simp only [boolsL, Option.map_eq_some_iff] at q
    obtain ⟨l, hl, rfl⟩ := q
    rw [RepsF.bools y hl, show v = V.bl i from x]; rfl
  | .non :: _, _, _, _, q => by simp [boolsL] at q
  | .int _ :: _, _, _, _, q => by simp [boolsL] at q
  | .str _ :: _, _, _, _, q => by simp [boolsL] at q
  | .tup _ :: _, _, _, _, q => by simp [boolsL] at q
  | .lst _ :: _, _, _, _, q => by simp [boolsL] at q
  | .dic _ _ :: _, _, _, _, q => by simp [boolsL] at q
  | .ins _ _ :: _, _, _, _, q => by simp [boolsL] at q
  | .exc _ _ :: _, _, _, _, q => by simp [boolsL] at q
  | .fn _ :: _, _, _, _, q => by simp [boolsL] at q
theorem RepsF.strs {F : Hp} : ∀ {ds : List D} {vs : List V} {is : List Str}, RepsF M F ds vs → strsL ds = some is → vs = is.map V.str
  | [], _, _, e, q => by rw [show _ = [] from e]; simp [strsL] at q; subst q; rfl
  | .str i :: ds, _, is, ⟨v, r, e, x, y⟩, q => by
    subst e
    simp only [strsL, Option.map_eq_some_iff] at q
    obtain ⟨l, hl, rfl⟩ := q
    rw [RepsF.strs y hl, show v = V.str i from x]; rfl
  | .non :: _, _, _, _, q => by simp [strsL] at q
  | .int _ :: _, _, _, _, q => by simp [strsL] at q
  | .bl _ :: _, _, _, _, q => by simp [strsL] at q
  | .tup _ :: _, _, _, _, q => by simp [strsL] at q
  | .lst _ :: _, _, _, _, q => by simp [strsL] at q
  | .dic _ _ :: _, _, _, _, q => by simp [strsL] at q
  | .ins _ _ :: _, _, _, _, q => by simp [strsL] at q
  | .exc _ _ :: _, _, _, _, q => by simp [strsL] at q
  | .fn _ :: _, _, _, _, q => by simp [strsL] at q
theorem RepsF.ofStrs {F : Hp} : ∀ (l : List Str), RepsF M F (l.map D.str) (l.map V.str)
  | [] => rfl
  | x :: l => ⟨_, _, rfl, rfl, RepsF.ofStrs l⟩
theorem RepsF.ofInts {F : Hp} : ∀ (l : List Int), RepsF M F (l.map D.int) (l.map V.int)
  | [] => rfl
  | x :: l => ⟨_, _, rfl, rfl, RepsF.ofInts l⟩

mutual
theorem toP_dp {F : Hp} : ∀ (d : D) (v : V) (p : PyData), RepF M F d v → toP d = some p → Dp M.K F v p
  | .non, _, p, e, q => by simp only [toP, Option.some.injEq] at q; subst q; rw [show _ = V.non from e]; exact .non
  | .bl b, _, p, e, q => by simp only [toP, Option.some.injEq] at q; subst q; rw [show _ = V.bl b from e]; exact .bl b
  | .int i, _, p, e, q => by simp only [toP, Option.some.injEq] at q; subst q; rw [show _ = V.int i from e]; exact .int i
  | .str s, _, p, e, q => by simp only [toP, Option.some.injEq] at q; subst q; rw [show _ = V.str s from e]; exact .str s
  | .tup ds, _, p, ⟨a, vs, e, h, r⟩, q => by
    subst e
    simp only [toP] at q
    split at q
    · rename_i ps hp
      cases q
      exact .tup h (toPs_dp ds vs ps r hp)
    · cases q
  | .lst ds, _, p, ⟨a, vs, e, h, r⟩, q => by
    subst e
    simp only [toP] at q
    split at q
    · rename_i ps hp
      cases q
      exact .lst h (toPs_dp ds vs ps r hp)
    · cases q
  | .fn _, _, _, _, q => by simp [toP] at q
  | .dic _ _, _, _, _, q => by simp [toP] at q
  | .ins _ _, _, _, _, q => by simp [toP] at q
  | .exc _ _, _, _, _, q => by simp [toP] at q
theorem toPs_dp {F : Hp} : ∀ (ds : List D) (vs : List V) (ps : List PyData), RepsF M F ds vs → toPs ds = some ps → DpAll M.K F vs ps
  | [], _, ps, e, q => by simp only [toPs, Option.some.injEq] at q; subst q; rw [show _ = [] from e]; exact .nil
  | d :: ds, _, ps, ⟨v, r, e, x, y⟩, q => by
    subst e
    simp only [toPs] at q
    split at q
    · rename_i p ps' h1 h2
      cases q
      exact .cons (toP_dp d v p x h1) (toPs_dp ds r ps' y h2)
    · cases q
end
end

section
variable (M : Mx)
/-- what is held by an object that somebody may change -/
def Hold (F : Hp) : D → HO → Prop
  | .lst ds, o => ∃ vs, o = .lst vs ∧ RepsF M F ds vs
  | .dic ks ds, o => ∃ vs, o = .dK (ks.zip vs) ∧ ks.length = vs.length ∧ RepsF M F ds vs
  | _, _ => False
def RepO (F H : Hp) (d : D) (v : V) : Prop := ∃ a o, v = .ref a ∧ F a = none ∧ H a = some o ∧ Hold M F d o
/-- looked at: frozen, or a thing that somebody owns -/
def View (F H : Hp) (d : D) (v : V) : Prop := RepF M F d v ∨ RepO M F H d v
def RepC (F H : Hp) : Cell → V → Prop
  | .fz d, v => RepF M F d v
  | .vw d, v => ∃ a o, v = .ref a ∧ H a = some o ∧ Hold M F d o ∧ (F a = none ∨ F a = some o)
  | .lst ds, v => RepO M F H (.lst ds) v
  | .dic ks ds, v => RepO M F H (.dic ks ds) v
def owns (c : Cell) (v : V) (a : Addr) : Prop := isOwn c = true ∧ v = .ref a
/-- what the names own -/
def Ow (ρ : Rho) (σ : L2.St) (a : Addr) : Prop := ∃ (i : Nat) (c : Cell), ρ[i]? = some (some c) ∧ isOwn c = true ∧ σ[i]? = some (some (.ref a))
/-- what is looked at -/
def Nw (ρ : Rho) (σ : L2.St) (a : Addr) : Prop := ∃ (i : Nat) (d : D), ρ[i]? = some (some (.vw d)) ∧ σ[i]? = some (some (.ref a))
def Fo (ρ : Rho) (σ : L2.St) : Bool → Addr → Prop
  | true, a => Ow ρ σ a
  | false, i => ∃ d, ρ[i]? = some (some (.vw d))
structure Rl (ρ : Rho) (σ : L2.St) (F H : Hp) : Prop where
  len : ρ.length = σ.length
  le : le F H
  cell : ∀ (i : Nat) (c : Cell), ρ[i]? = some (some c) → ∃ v, σ[i]? = some (some v) ∧ RepC M F H c v
  dis : ∀ (i j : Nat) (ci cj : Cell) (a : Addr), ρ[i]? = some (some ci) → ρ[j]? = some (some cj) → isOwn ci = true → isOwn cj = true → σ[i]? = some (some (.ref a)) → σ[j]? = some (some (.ref a)) → i = j
  vw : ∀ (i : Nat) (d : D) (a : Addr), ρ[i]? = some (some (.vw d)) → σ[i]? = some (some (.ref a)) → ¬ Ow ρ σ a
end
/-- what a step keeps, O: what may be changed, what is looked at -/
structure Stp (O : Bool → Addr → Prop) (F H : Hp) (O' : Bool → Addr → Prop) (F' H' : Hp) : Prop where
  mono : le F F'
  keep : ∀ a o, H a = some o → ¬ O true a → H' a = some o ∧ (F a = none → F' a = none)
  stay : ∀ a, H a ≠ none → H' a ≠ none
  fresh : ∀ a, O' true a → O true a ∨ H a = none
  see : ∀ i, O' false i → O false i
theorem Stp.refl (O : Bool → Addr → Prop) (F H : Hp) : Stp O F H O F H := ⟨le.refl F, fun _ _ e _ => ⟨e, fun x => x⟩, fun _ h => h, fun _ h => .inl h, fun _ h => h⟩
theorem Stp.back {O O1 : Bool → Addr → Prop} {F H F1 H1 : Hp} (s : Stp O F H O1 F1 H1) {a : Addr} (h : O1 true a ∨ H1 a = none) : O true a ∨ H a = none := by
  rcases h with h | h
  · exact s.fresh a h
  · by_cases q : H a = none
    · exact .inr q
    · exact absurd h (s.stay a q)
theorem Stp.trans {O O1 O2 : Bool → Addr → Prop} {F H F1 H1 F2 H2 : Hp} (a : Stp O F H O1 F1 H1) (b : Stp O1 F1 H1 O2 F2 H2) : Stp O F H O2 F2 H2 where
  mono := a.mono.trans b.mono
  stay := fun p h => b.stay p (a.stay p h)
  keep := fun p o e n => by
    obtain ⟨e1, k1⟩ := a.keep p o e n
    have n1 : ¬ O1 true p := fun z => (a.fresh p z).elim n fun q => by rw [e] at q; cases q
    obtain ⟨e2, k2⟩ := b.keep p o e1 n1
    exact ⟨e2, fun q => k2 (k1 q)⟩
  fresh := fun p h => a.back (b.fresh p h)
  see := fun i h => a.see i (b.see i h)
section
variable {M : Mx} {F H F' H' : Hp} {O O' : Bool → Addr → Prop} {ρ ρ' : Rho} {σ σ' : L2.St}
theorem Hold.mono {d : D} {o : HO} (hl : Ev.le F F') (h : Hold M F d o) : Hold M F' d o := by
  cases d with
  | lst ds => obtain ⟨vs, e, r⟩ := h; exact ⟨vs, e, RepsF.mono hl _ _ r⟩
  | dic ks ds => obtain ⟨vs, e, l, r⟩ := h; exact ⟨vs, e, l, RepsF.mono hl _ _ r⟩
  | non => exact h.elim
  | bl _ => exact h.elim
  | int _ => exact h.elim
  | str _ => exact h.elim
  | tup _ => exact h.elim
  | ins _ _ => exact h.elim
  | exc _ _ => exact h.elim
  | fn _ => exact h.elim
/-- frozen, it is worth the same -/
theorem Hold.frz {d : D} {o : HO} {a : Addr} (h : Hold M F d o) (e : F a = some o) : RepF M F d (.ref a) := by
  cases d with
  | lst ds => obtain ⟨vs, rfl, r⟩ := h; exact ⟨a, vs, rfl, SqL.of e, r⟩
  | dic ks ds => obtain ⟨vs, rfl, l, r⟩ := h; exact ⟨a, vs, rfl, e, l, r⟩
  | non => exact h.elim
  | bl _ => exact h.elim
  | int _ => exact h.elim
  | str _ => exact h.elim
  | tup _ => exact h.elim
  | ins _ _ => exact h.elim
  | exc _ _ => exact h.elim
  | fn _ => exact h.elim
theorem RepC.own {c : Cell} {v : V} (h : RepC M F H c v) (ho : isOwn c = true) : RepO M F H c.d v := by
  cases c with
  | fz d => cases ho
  | vw d => cases ho
  | lst ds => exact h
  | dic ks ds => exact h
theorem RepC.of_own {c : Cell} {v : V} (ho : isOwn c = true) (h : RepO M F H c.d v) : RepC M F H c v := by
  cases c with
  | fz d => cases ho
  | vw d => cases ho
  | lst ds => exact h
  | dic ks ds => exact h
theorem RepO.at {d : D} {v : V} {a : Addr} (h : RepO M F H d v) (e : v = .ref a) : F a = none ∧ ∃ o, H a = some o ∧ Hold M F d o := by
  obtain ⟨b, o, e', n, q, r⟩ := h
  rw [e'] at e; cases e
  exact ⟨n, o, q, r⟩
theorem View.le {d : D} {v : V} (h : View M F H d v) (hl : Ev.le F F') (hk : ∀ a o, v = .ref a → F a = none → H a = some o → F' a = none ∧ H' a = some o) : View M F' H' d v := by
  rcases h with h | ⟨a, o, e2, n, e, r⟩
  · exact .inl (RepF.mono hl _ _ h)
  · obtain ⟨n', e'⟩ := hk a o e2 n e
    exact .inr ⟨a, o, e2, n', e', r.mono hl⟩
/-- what is looked at reads as a list -/
theorem View.sql {ds : List D} {v : V} (h : View M F H (.lst ds) v) (hl : Ev.le F H) : ∃ a vs, v = .ref a ∧ SqL M.K H a vs ∧ RepsF M F ds vs := by
  rcases h with ⟨a, vs, e, q, r⟩ | ⟨a, o, e2, n, e, vs, rfl, r⟩
  · exact ⟨a, vs, e, SqL.le hl q, r⟩
  · exact ⟨a, vs, e2, SqL.of e, r⟩
theorem View.sqt {ds : List D} {v : V} (h : View M F H (.tup ds) v) (hl : Ev.le F H) : ∃ a vs, v = .ref a ∧ SqT M.K H a vs ∧ RepsF M F ds vs := by
  rcases h with ⟨a, vs, e, q, r⟩ | ⟨a, o, e2, n, e, r⟩
  · exact ⟨a, vs, e, SqT.le hl q, r⟩
  · exact r.elim
theorem View.dk {ks : List L2.Key} {ds : List D} {v : V} (h : View M F H (.dic ks ds) v) (hl : Ev.le F H) : ∃ a vs, v = .ref a ∧ H a = some (.dK (ks.zip vs)) ∧ ks.length = vs.length ∧ RepsF M F ds vs := by
  rcases h with ⟨a, vs, e, q, l, r⟩ | ⟨a, o, e2, n, e, vs, rfl, l, r⟩
  · exact ⟨a, vs, e, hl _ _ q, l, r⟩
  · exact ⟨a, vs, e2, e, l, r⟩
/-- things that can be changed -/
def isMut : D → Bool | .lst _ => true | .dic _ _ => true | _ => false
theorem View.frz {d : D} {v : V} (h : View M F H d v) (hd : isMut d = false) : RepF M F d v := by
  rcases h with h | ⟨_, _, _, _, _, r⟩
  · exact h
  · cases d <;> first | exact r.elim | cases hd
theorem View.dp {d : D} {v : V} {p : PyData} (h : View M F H d v) (hl : Ev.le F H) (hp : toP d = some p) : Dp M.K H v p := by
  rcases h with h | ⟨a, o, rfl, n, e, r⟩
  · exact toP_dp d v p (RepF.mono hl _ _ h) hp
  · cases d with
    | lst ds =>
      obtain ⟨vs, rfl, r⟩ := r
      simp only [toP] at hp
      split at hp
      · rename_i ps hps
        cases hp
        exact .lst (SqL.of e) (toPs_dp ds vs ps (RepsF.mono hl _ _ r) hps)
      · cases hp
    | dic _ _ => simp [toP] at hp
    | non => exact r.elim
    | bl _ => exact r.elim
    | int _ => exact r.elim
    | str _ => exact r.elim
    | tup _ => exact r.elim
    | ins _ _ => exact r.elim
    | exc _ _ => exact r.elim
    | fn _ => exact r.elim
theorem RepC.view {c : Cell} {v : V} (h : RepC M F H c v) : View M F H c.d v := by
  cases c with
  | fz d => exact .inl h
  | vw d =>
    obtain ⟨a, o, rfl, q, r, n⟩ := h
    rcases n with n | n
    · exact .inr ⟨a, o, rfl, n, q, r⟩
    · exact .inl (r.frz n)
  | lst ds => exact .inr h
  | dic ks ds => exact .inr h
/-- a thing that a step doesn't touch -/
theorem RepO.stp {d : D} {v : V} (h : RepO M F H d v) (s : Stp O F H O' F' H') (hn : ∀ a, v = .ref a → ¬ O true a) : RepO M F' H' d v := by
  obtain ⟨a, o, e, n, q, r⟩ := h
  obtain ⟨q', k⟩ := s.keep a _ q (hn a e)
  exact ⟨a, o, e, k n, q', r.mono s.mono⟩
theorem RepC.stp {c : Cell} {v : V} (h : RepC M F H c v) (s : Stp O F H O' F' H') (hn : ∀ a, v = .ref a → isOwn c = true ∨ (∃ d, c = .vw d) → ¬ O true a) : RepC M F' H' c v := by
  cases c with
  | fz d => exact RepF.mono s.mono _ _ h
  | vw d =>
    obtain ⟨a, o, e2, q, r, n⟩ := h
    obtain ⟨q', k⟩ := s.keep a _ q (hn a e2 (.inr ⟨d, rfl⟩))
    exact ⟨a, o, e2, q', r.mono s.mono, n.elim (fun n => .inl (k n)) fun n => .inr (s.mono _ _ n)⟩
  | lst ds => exact RepO.stp h s fun a e => hn a e (.inl rfl)
  | dic ks ds => exact RepO.stp h s fun a e => hn a e (.inl rfl)
theorem Rl.there (R : Rl M ρ σ F H) {a : Addr} (h : Ow ρ σ a) : ∃ o, H a = some o ∧ F a = none := by
  obtain ⟨i, c, e, ho, es⟩ := h
  obtain ⟨v, ev, r⟩ := R.cell i c e
  rw [es] at ev; cases ev
  obtain ⟨n, o, q, _⟩ := (r.own ho).at rfl
  exact ⟨o, q, n⟩
theorem Rl.thereN (R : Rl M ρ σ F H) {a : Addr} (h : Nw ρ σ a) : H a ≠ none := by
  obtain ⟨i, d, e, es⟩ := h
  obtain ⟨v, ev, b, o, e2, q, _⟩ := R.cell i _ e
  rw [es] at ev; cases ev; cases e2
  rw [q]; simp
theorem Stp.nw (s : Stp (Fo ρ σ) F H (Fo ρ' σ) F' H') {a : Addr} (h : Nw ρ' σ a) : Nw ρ σ a := by
  obtain ⟨i, d, e, es⟩ := h
  obtain ⟨d', e'⟩ := s.see i ⟨d, e⟩
  exact ⟨i, d', e', es⟩
/-- a list that is one's own becomes everybody's -/
theorem le.frz {a : Addr} {o : HO} (h : le F H) (e : H a = some o) : le (L2.upd F a o) H := fun b u q => by
  by_cases hb : b = a
  · subst hb; rw [upd_same] at q; cases q; exact e
  · rw [upd_ne hb] at q; exact h b u q
end
end Ev
end

section
set_option maxHeartbeats 0
namespace Ev
open PySem PySem.Spec PyProof.Rows L2

section
variable {M : Mx} {F H : Hp}
/-- a new value worth c: nothing that stands is changed -/
def New (M : Mx) (F H : Hp) (c : Cell) (Q : VK) : Prop := ∀ v F' H', le F F' → le H H' → le F' H' → (∀ a, H a ≠ none → F' a = F a) → RepC M F' H' c v → (∀ a, owns c v a → H a = none) → Q v H'
theorem New.fz {d : D} {Q : VK} (q : New M F H (.fz d) Q) (hl : le F H) {v : V} (r : RepF M F d v) : Q v H :=
  q v F H (le.refl F) (le.refl H) hl (fun _ _ => rfl) r fun a h => absurd h.1 (by simp [isOwn])
theorem le.none {p : Addr} (hl : le F H) (hp : H p = none) : F p = none := by
  cases e : F p with
  | none => rfl
  | some o => rw [hl p o e] at hp; cases hp
theorem New.lst {ds : List D} {Q : VK} (q : New M F H (.lst ds) Q) (hl : le F H) {p : Addr} (hp : H p = none) {vs : List V} (r : RepsF M F ds vs) : Q (.ref p) (L2.upd H p (.lst vs)) := by
  have hF := le.none hl hp
  exact q _ F _ (le.refl F) (le.upd hp) (le.updR hl hF) (fun _ _ => rfl) ⟨p, _, rfl, hF, upd_same, vs, rfl, r⟩ fun a h => by cases h.2; exact hp
theorem New.tup {ds : List D} {Q : VK} (q : New M F H (.fz (.tup ds)) Q) (hl : le F H) {p : Addr} (hp : H p = none) {vs : List V} (r : RepsF M F ds vs) : Q (.ref p) (L2.upd H p (.tup vs)) := by
  have hF := le.none hl hp
  refine q _ (L2.upd F p (.tup vs)) _ (le.upd hF) (le.upd hp) (le.upd2 hl) (fun a h => ?_) ⟨p, vs, rfl, SqT.of upd_same, RepsF.mono (le.upd hF) _ _ r⟩ fun a h => absurd h.1 (by simp [isOwn])
  exact upd_ne fun e => h (by rw [e]; exact hp)

theorem View.int {i : Int} {v : V} (h : View M F H (.int i) v) : v = .int i := View.frz h rfl
theorem View.bl {i : Bool} {v : V} (h : View M F H (.bl i) v) : v = .bl i := View.frz h rfl
theorem View.str {i : Str} {v : V} (h : View M F H (.str i) v) : v = .str i := View.frz h rfl
theorem View.non {v : V} (h : View M F H .non v) : v = .non := View.frz h rfl
end

def opOf : BO → Operator
  | .add => .Add | .sub => .Sub | .mul => .Mult | .fdiv => .FloorDiv | .mod => .Mod | .pow => .Pow
def rBin (M : Mx) (o : BO) : R2 := fun x y H Q => ∃ F d e c, le F H ∧ View M F H d x ∧ View M F H e y ∧ binD o d e = some c ∧ New M F H c Q

section
variable {X : Cx} {M : Mx}
/-- list + list, read in any way -/
theorem cat_lists {pins : List (Addr × Obj)} {s : Shared} {σ : L2.St} {H : Hp} {a b : Addr} {xs ys : List V} {Q : VK} (I : Inv X pins σ H s) (ha : SqL X.K H a xs) (hb : SqL X.K H b ys) (hz : xs.length + ys.length ≤ sizeLine)
    (q : ∀ p, H p = none → Q (.ref p) (L2.upd H p (.lst (xs ++ ys)))) : wpAny (model X.prog X.w) X.A (binaryOp .Add (.ref a) (.ref b)) (EP X pins σ Q) X.xe s := by
  obtain ⟨its, r, p1, z⟩ := I.list ha
  obtain ⟨its2, r2, p2, z2⟩ := I.list hb
  obtain ⟨⟨cls, dd, data, sl⟩, ho, hc, n, hd⟩ := p1.isList
  obtain ⟨⟨cls2, dd2, data2, sl2⟩, ho2, hc2, n2, hd2⟩ := p2.isList
  simp only at hc hd hc2 hd2
  subst hc hd hc2 hd2
  have l1 := r.length
  have l2 := r2.length
  have e : its.toArray ++ its2.toArray = (its ++ its2).toArray := by simp
  refine concat_meets ⟨_, ho, rfl⟩ ⟨_, ho2, rfl⟩ noFill_list_add seq_list_add PySem.F.slot_list_add PySem.F.entry_list_add (PySem.F.args_list_add_2 _ _) (list_addW a b its.toArray its2.toArray n n2 dd dd2 sl sl2 (by rw [List.size_toArray, List.size_toArray]; omega)) ⟨ho, ho2, ?_⟩
  rw [e]
  exact ⟨.ref _, _, I.lnew (t' := s.toks) (r.append r2) (by rw [List.length_append]; omega), rfl, q _ I.fresh⟩
theorem rep_list {pins : List (Addr × Obj)} {s : Shared} {σ : L2.St} {H : Hp} {a : Addr} {xs : List V} {j : Int} {t : Tok} {Q : VK} (I : Inv X pins σ H s) (ha : SqL X.K H a xs) (h1 : -(2 ^ 63) ≤ j) (h2 : j < 2 ^ 63) (hz : xs.length * j.toNat ≤ sizeLine)
    (q : ∀ p, H p = none → Q (.ref p) (L2.upd H p (.lst (List.replicate j.toNat xs).flatten))) : wpAny (model X.prog X.w) X.A (binaryOp .Mult (.ref a) (.int j t)) (EP X pins σ Q) X.xe s := by
  obtain ⟨its, r, p1, z⟩ := I.list ha
  obtain ⟨⟨cls, dd, data, sl⟩, ho, hc, n, hd⟩ := p1.isList
  simp only at hc hd
  subst hc hd
  have l1 := r.length
  have hlen : its.toArray.size * j.toNat ≤ sizeLine := by rw [List.size_toArray, ← l1]; exact hz
  have hcap : ¬ its.toArray.size * j.toNat > (2 ^ 63 - 1) / 8 := by
    have : (sizeLine : Nat) ≤ (2 ^ 63 - 1) / 8 := by decide
    omega
  have hfit : ¬ (!Builtin.List.listFitsIndex j) = true := by
    rw [fitsIndex_both h1 h2]
    exact Bool.false_ne_true
  have hlong : ¬ Builtin.List.listTooLong (its.toArray.size * j.toNat) = true := by
    rw [notLongL hlen]
    exact Bool.false_ne_true
  refine wpAny_binaryOp_repeat_ref (T := "list") (U := "int") (by decide) ⟨_, ho, rfl⟩ (fun s' => typeIs_int s' j t) noFill_list_mul PySem.F.fills_int_mul PySem.F.slot_int_rmul repeat_list PySem.F.slot_int_index.lookup
    (call_meets PySem.F.slot_int_rmul (typeIs_int s j t) PySem.F.entry_int_rmul (PySem.F.args_int_rmul_2 _ _) (lm_int_rmul_list_any j t a its.toArray n dd sl)
      ⟨ho, rfl, ⟨_, ho, rfl⟩, call_meets PySem.F.slot_list_mul ⟨_, ho, rfl⟩ PySem.F.entry_list_mul (PySem.F.args_list_mul_2 _ _)
        (lm_list_mul_any a its.toArray n dd sl j t hfit hcap hlong) ⟨ho, ?_⟩⟩)
  rw [listMul_foldl_if]
  exact ⟨.ref _, _, I.lnew (t' := s.toks) (r.rep j.toNat) (by rw [PyProof.Rows.lm_len_rep_flat, Nat.mul_comm]; exact hz), rfl, q _ I.fresh⟩
theorem RepsF.rep {F : Hp} {ds : List D} {vs : List V} (r : RepsF M F ds vs) : ∀ n, RepsF M F (List.replicate n ds).flatten (List.replicate n vs).flatten
  | 0 => rfl
  | n + 1 => by rw [List.replicate_succ, List.replicate_succ, List.flatten_cons, List.flatten_cons]; exact r.app (RepsF.rep r n)
theorem bin_ok (hK : M.K = X.K) (o : BO) : OpR X (binaryOp (opOf o)) (rBin M o) := by
  intro pins s σ H x y v u Q I rx ry h
  obtain ⟨F, d, e, c, hl, vx, vy, hb, q⟩ := h
  unfold binD at hb
  split at hb
  · cases hb; have := vx.int; have := vy.int; subst x y
    exact op_add pins s σ H _ _ v u Q I rx ry ⟨_, _, rfl, rfl, q.fz hl rfl⟩
  · split at hb
    · cases hb; have := vx.str; have := vy.str; subst x y
      exact op_add_str pins s σ H _ _ v u Q I rx ry ⟨_, _, rfl, rfl, by assumption, q.fz hl rfl⟩
    · cases hb
  · split at hb
    · rename_i hz
      cases hb
      obtain ⟨a, vs, rfl, h1, r1⟩ := vx.sql hl
      obtain ⟨b, ws, rfl, h2, r2⟩ := vy.sql hl
      cases rx; cases ry
      rw [hK] at h1 h2
      have l1 := r1.len
      have l2 := r2.len
      exact cat_lists I h1 h2 (by omega) fun p hp => q.lst hl hp (r1.app r2)
    · cases hb
  · split at hb
    · rename_i hz
      cases hb
      obtain ⟨a, vs, rfl, h1, r1⟩ := vx.sqt hl
      obtain ⟨b, ws, rfl, h2, r2⟩ := vy.sqt hl
      rw [hK] at h1 h2
      have l1 := r1.len
      have l2 := r2.len
      refine op_catA pins s σ H _ _ v u Q I rx ry ⟨_, _, _, _, rfl, rfl, h1, h2, by omega, fun e => ?_, fun hne e => ?_, fun _ _ p hp => q.tup hl hp (r1.app r2)⟩
      · subst e
        rw [List.length_nil] at l1
        rename_i x' y'
        obtain rfl : x' = [] := List.eq_nil_of_length_eq_zero l1
        exact q.fz hl (by simpa using (vy.frz rfl))
      · subst e
        rw [List.length_nil] at l2
        rename_i x' y'
        obtain rfl : y' = [] := List.eq_nil_of_length_eq_zero l2
        exact q.fz hl (by simpa using (vx.frz rfl))
    · cases hb
  · cases hb; have := vx.int; have := vy.int; subst x y
    exact op_sub pins s σ H _ _ v u Q I rx ry ⟨_, _, rfl, rfl, q.fz hl rfl⟩
  · split at hb
    · rename_i hz
      cases hb; have := vx.int; have := vy.int; subst x y
      rw [Bool.or_eq_true] at hz
      rcases hz with hz | hz
      · refine op_mul pins s σ H _ _ v u Q I rx ry ⟨_, _, rfl, rfl, ?_, q.fz hl rfl⟩
        simpa only [CMul, Bool.or_eq_true, Bool.and_eq_true, decide_eq_true_eq, small] using hz
      · exact op_mulW pins s σ H _ _ v u Q I rx ry ⟨_, _, rfl, rfl, (of_decide_eq_true hz : _ < _), q.fz hl rfl⟩
    · cases hb
  · split at hb
    · rename_i hz
      cases hb; have := vy.int; subst y
      obtain ⟨a, vs, rfl, h1, r1⟩ := vx.sql hl
      rw [hK] at h1
      cases rx
      obtain ⟨t, rfl⟩ := ry
      have l1 := r1.len
      exact rep_list I h1 hz.1 hz.2.1 (by rw [← l1]; exact hz.2.2) fun p hp => q.lst hl hp (r1.rep _)
    · cases hb
  · split at hb
    · rename_i hz
      cases hb; have := vx.int; have := vy.int; subst x y
      exact op_fdivW pins s σ H _ _ v u Q I rx ry ⟨_, _, rfl, rfl, hz, q.fz hl rfl⟩
    · cases hb
  · split at hb
    · rename_i hz
      cases hb; have := vx.int; have := vy.int; subst x y
      exact op_mod pins s σ H _ _ v u Q I rx ry ⟨_, _, rfl, rfl, hz, q.fz hl rfl⟩
    · cases hb
  · split at hb
    · rename_i hz
      cases hb; have := vx.int; have := vy.int; subst x y
      exact op_pow pins s σ H _ _ v u Q I rx ry ⟨_, _, rfl, rfl, hz, q.fz hl rfl⟩
    · cases hb
  · cases hb
end
end Ev
end

section
set_option maxHeartbeats 0
namespace Ev
open PySem PySem.Spec PyProof.Rows L2 PySem.SeqAt Ob

def coOf : CO → CmpOp
  | .eq => .Eq | .ne => .NotEq | .lt => .Lt | .le => .LtE | .gt => .Gt | .ge => .GtE | .is => .Is | .isnot => .IsNot | .in_ => .In | .notin => .NotIn
def rCmp (M : Mx) (o : CO) : R2 := fun x y H Q => ∃ F d e t, le F H ∧ View M F H d x ∧ View M F H e y ∧ cmpD o d e = some t ∧ Q (.bl t) H

section
variable {X : Cx} {M : Mx} {F H : Hp}
theorem View.ne_non {d : D} {v : V} (h : View M F H d v) (hd : d ≠ .non) : v ≠ .non := by
  rcases h with h | ⟨a, o, e, _⟩
  · cases d with
    | non => exact absurd rfl hd
    | bl b => rw [show v = V.bl b from h]; intro e; cases e
    | int b => rw [show v = V.int b from h]; intro e; cases e
    | str b => rw [show v = V.str b from h]; intro e; cases e
    | tup ds => obtain ⟨a, vs, e, _⟩ := h; rw [e]; intro e; cases e
    | lst ds => obtain ⟨a, vs, e, _⟩ := h; rw [e]; intro e; cases e
    | fn f => obtain ⟨a, _, e⟩ := h; rw [e]; intro e; cases e
    | dic _ _ => obtain ⟨a, vs, e, _⟩ := h; rw [e]; intro e; cases e
    | ins _ _ => obtain ⟨a, C, dx, vs, e, _⟩ := h; rw [e]; intro e; cases e
    | exc _ _ => obtain ⟨a, C, dx, vs, e, _⟩ := h; rw [e]; intro e; cases e
  · rw [e]; intro e; cases e
theorem eq_ok (hK : M.K = X.K) (hu : X.A.units + 64 < cLine) {pins : List (Addr × Obj)} {s : Shared} {σ : L2.St} {x y : V} {v u : Value} {Q : VK} (I : Inv X pins σ H s) (rx : RelV x v) (ry : RelV y u) {d e : D} {t : Bool}
    (hl : le F H) (vx : View M F H d x) (vy : View M F H e y) (h : eqD d e = some t) :
    (Q (.bl t) H → wpAny (model X.prog X.w) X.A (compareOp .Eq v u) (EP X pins σ Q) X.xe s) ∧ (Q (.bl (!t)) H → wpAny (model X.prog X.w) X.A (compareOp .NotEq v u) (EP X pins σ Q) X.xe s) := by
  unfold eqD at h
  split at h
  · rename_i p q hp hq
    split at h
    · rename_i hs
      cases h
      rw [Bool.and_eq_true] at hs
      have d1 := vx.dp hl hp
      have d2 := vy.dp hl hq
      rw [hK] at d1 d2
      exact ⟨fun q => op_eqD hu pins s σ H x y v u Q I rx ry ⟨_, _, d1, d2, hs.1, hs.2, q⟩, fun q => op_neD hu pins s σ H x y v u Q I rx ry ⟨_, _, d1, d2, hs.1, hs.2, q⟩⟩
    · cases h
  · cases h
theorem in_ok (hK : M.K = X.K) (hu : X.A.units + 65 < cLine) {pins : List (Addr × Obj)} {s : Shared} {σ : L2.St} {x y : V} {v u : Value} {Q : VK} (I : Inv X pins σ H s) (rx : RelV x v) (ry : RelV y u) {d e : D} {t : Bool}
    (hl : le F H) (vx : View M F H d x) (vy : View M F H e y) (h : inD d e = some t) :
    (Q (.bl t) H → wpAny (model X.prog X.w) X.A (compareOp .In v u) (EP X pins σ Q) X.xe s) ∧ (Q (.bl (!t)) H → wpAny (model X.prog X.w) X.A (compareOp .NotIn v u) (EP X pins σ Q) X.xe s) := by
  unfold inD at h
  split at h
  · split at h
    · cases h
      have := vx.str; have := vy.str; subst x y
      exact ⟨fun q => op_in_str pins s σ H _ _ v u Q I rx ry ⟨_, _, rfl, rfl, q⟩, fun q => op_notin_str pins s σ H _ _ v u Q I rx ry ⟨_, _, rfl, rfl, q⟩⟩
    · cases h
  · rename_i ds
    unfold inL at h
    split at h
    · rename_i p ps hp hps
      split at h
      · rename_i hs
        cases h
        rw [Bool.and_eq_true] at hs
        have d1 := vx.dp hl hp
        have d2 := vy.dp hl (p := .list ps) (by simp only [toP, hps])
        rw [hK] at d1 d2
        exact ⟨fun q => op_inD hu pins s σ H x y v u Q I rx ry ⟨_, _, d1, d2, hs.1, hs.2, q⟩, fun q => op_notInD hu pins s σ H x y v u Q I rx ry ⟨_, _, d1, d2, hs.1, hs.2, q⟩⟩
      · cases h
    · cases h
  · rename_i ds
    unfold inL at h
    split at h
    · rename_i p ps hp hps
      split at h
      · rename_i hs
        cases h
        rw [Bool.and_eq_true] at hs
        have d1 := vx.dp hl hp
        have d2 := vy.dp hl (p := .tuple ps) (by simp only [toP, hps])
        rw [hK] at d1 d2
        obtain ⟨as, r1⟩ := Dp.reads I _ x v d1 rx
        obtain ⟨bs, r2⟩ := Dp.reads I _ y u d2 ry
        have hc : PyData.canLayAll0 ps = true := by
          have := SeqAt.canLay_of_shaped hs.2
          simpa [PyData.canLay0] using this
        have hd1 := SeqAt.depth_of_shaped hs.1
        have hr : X.A.units + 1 + min (PyData.depthAll ps) p.depth < cLine := by
          have : min (PyData.depthAll ps) p.depth ≤ p.depth := Nat.min_le_right _ _
          omega
        exact ⟨fun q => SeqAt.in_tuple_reads r2 r1 hc (SeqAt.canLay_of_shaped hs.1) hr ⟨.bl _, H, I, rfl, q⟩, fun q => SeqAt.notIn_tuple_reads r2 r1 hc (SeqAt.canLay_of_shaped hs.1) hr ⟨.bl _, H, I, rfl, q⟩⟩
      · cases h
    · cases h
  · cases h
theorem lt_ok (hK : M.K = X.K) (hu : X.A.units + 64 < cLine) {pins : List (Addr × Obj)} {s : Shared} {σ : L2.St} {x y : V} {v u : Value} {Q : VK} (I : Inv X pins σ H s) (rx : RelV x v) (ry : RelV y u) {d e : D} {t : Bool}
    (hl : le F H) (vx : View M F H d x) (vy : View M F H e y) (h : ltD d e = some t) (q : Q (.bl t) H) : wpAny (model X.prog X.w) X.A (compareOp .Lt v u) (EP X pins σ Q) X.xe s := by
  unfold ltD at h
  split at h
  · cases h; have := vx.int; have := vy.int; subst x y
    exact op_lt pins s σ H _ _ v u Q I rx ry ⟨_, _, rfl, rfl, q⟩
  · cases h; have := vx.str; have := vy.str; subst x y
    exact op_lt_str pins s σ H _ _ v u Q I rx ry ⟨_, _, rfl, rfl, q⟩
  · split at h
    · rename_i p q' hp hq
      split at h
      · rename_i hs
        cases h
        rw [Bool.and_eq_true, Bool.and_eq_true] at hs
        have d1 := vx.dp hl hp
        have d2 := vy.dp hl hq
        rw [hK] at d1 d2
        obtain ⟨as, r1⟩ := Dp.reads I _ x v d1 rx
        obtain ⟨bs, r2⟩ := Dp.reads I _ y u d2 ry
        have hn : p ≠ .none := by
          simp only [toP] at hp
          split at hp
          · cases hp; intro z; cases z
          · cases hp
        exact PySem.W.rcLt_alike _ _ X.A s v u as bs r1 r2 hs.1.1 hn (SeqAt.room_of_shaped hs.1.2 hu) X.prog X.w X.xe _ ⟨.bl _, H, I, rfl, q⟩
      · cases h
    · cases h
  · cases h
/-- <= of tuples of texts -/
theorem leS_lex : ∀ (l m : List Str), leS l m = lexAt (fun j => l[j]? == m[j]?) (fun j => !decide ((m[j]?.getD Str.empty).cps.toList < (l[j]?.getD Str.empty).cps.toList)) (decide (l.length ≤ m.length)) 0 (min l.length m.length) := by
  have key : ∀ (l m pl pm : List Str), pl.length = pm.length → leS l m = lexAt (fun j => (pl ++ l)[j]? == (pm ++ m)[j]?) (fun j => !decide ((((pm ++ m)[j]?).getD Str.empty).cps.toList < (((pl ++ l)[j]?).getD Str.empty).cps.toList)) (decide (l.length ≤ m.length)) pl.length (min l.length m.length) := by
    intro l
    induction l with
    | nil => intro m pl pm _; simp [leS, lexAt_zero]
    | cons a l ih =>
      intro m pl pm h
      cases m with
      | nil => simp [leS, lexAt_zero]
      | cons b m =>
        have e1 : (pl ++ a :: l)[pl.length]? = some a := by simp
        have e2 : (pm ++ b :: m)[pl.length]? = some b := by rw [h]; simp
        have e3 : min (a :: l).length (b :: m).length = min l.length m.length + 1 := by simp only [List.length_cons]; omega
        rw [e3, lexAt_succ]
        simp only [e1, e2]
        have e4 := ih m (pl ++ [a]) (pm ++ [b]) (by simp [h])
        simp only [List.append_assoc, List.singleton_append, List.length_append, List.length_cons, List.length_nil, Nat.zero_add] at e4
        have e5 : decide ((a :: l).length ≤ (b :: m).length) = decide (l.length ≤ m.length) := by simp
        rw [e5, ← e4]
        by_cases hab : a = b
        · subst hab; simp [leS]
        · simp [leS, hab]
  intro l m
  simpa using key l m [] [] rfl
theorem le_ok (hK : M.K = X.K) (hu : X.A.units + 64 < cLine) {pins : List (Addr × Obj)} {s : Shared} {σ : L2.St} {x y : V} {v u : Value} {Q : VK} (I : Inv X pins σ H s) (rx : RelV x v) (ry : RelV y u) {ds es : List D} {t : Bool}
    (hl : le F H) (vx : View M F H (.tup ds) x) (vy : View M F H (.tup es) y) (h : leT ds es = some t) (q : Q (.bl t) H) : wpAny (model X.prog X.w) X.A (compareOp .LtE v u) (EP X pins σ Q) X.xe s := by
  unfold leT at h
  split at h
  · rename_i l m h1 h2
    cases h
    obtain ⟨a, vs, rfl, q1, r1⟩ := vx.sqt hl
    obtain ⟨b, ws, rfl, q2, r2⟩ := vy.sqt hl
    have e1 := r1.strs h1
    have e2 := r2.strs h2
    subst e1 e2
    rw [hK] at q1 q2
    cases rx; cases ry
    obtain ⟨its, w1, p1, _⟩ := I.tuple q1
    obtain ⟨its2, w2, p2, _⟩ := I.tuple q2
    have g1 : ∀ j (hj : j < its.toArray.size), ∃ t, its.toArray[j] = .str (l[j]?.getD Str.empty) t ∧ l[j]? = some (l[j]?.getD Str.empty) := fun j hj => by
      have hl1 := w1.length
      rw [List.length_map] at hl1
      rw [List.size_toArray] at hj
      obtain ⟨u, hu', ru⟩ := w1.get (i := j) (x := .str (l[j]'(by omega))) (by simp [show j < l.length by omega])
      obtain ⟨t, rfl⟩ := ru
      refine ⟨t, ?_, by simp [show j < l.length by omega]⟩
      have : its[j]'hj = .str (l[j]'(by omega)) t := (List.getElem?_eq_some_iff.mp hu').2
      simp [show j < l.length by omega, this]
    have g2 : ∀ j (hj : j < its2.toArray.size), ∃ t, its2.toArray[j] = .str (m[j]?.getD Str.empty) t ∧ m[j]? = some (m[j]?.getD Str.empty) := fun j hj => by
      have hl1 := w2.length
      rw [List.length_map] at hl1
      rw [List.size_toArray] at hj
      obtain ⟨u, hu', ru⟩ := w2.get (i := j) (x := .str (m[j]'(by omega))) (by simp [show j < m.length by omega])
      obtain ⟨t, rfl⟩ := ru
      refine ⟨t, ?_, by simp [show j < m.length by omega]⟩
      have : its2[j]'hj = .str (m[j]'(by omega)) t := (List.getElem?_eq_some_iff.mp hu').2
      simp [show j < m.length by omega, this]
    have hs1 : its.toArray.size = l.length := by rw [List.size_toArray, ← w1.length, List.length_map]
    have hs2 : its2.toArray.size = m.length := by rw [List.size_toArray, ← w2.length, List.length_map]
    refine RcOp.tuples_le (e := fun j => l[j]? == m[j]?) (r := fun j => !decide ((m[j]?.getD Str.empty).cps.toList < (l[j]?.getD Str.empty).cps.toList)) p1 p2 (by omega) (fun j h1 h2 => ?_) (fun j h1 h2 _ => ?_) X.prog X.w X.xe _ ?_
    · obtain ⟨t1, e1, f1⟩ := g1 j h1
      obtain ⟨t2, e2, f2⟩ := g2 j h2
      rw [e1, e2]
      have : (l[j]? == m[j]?) = (l[j]?.getD Str.empty == m[j]?.getD Str.empty) := by
        rw [f1, f2]; simp
      rw [this]
      exact SeqAt.EqAt.str_str _ _ _ _
    · obtain ⟨t1, e1, f1⟩ := g1 j h1
      obtain ⟨t2, e2, f2⟩ := g2 j h2
      rw [e1, e2]
      exact fun prog w E Q h => PySem.P.le_str h
    · rw [hs1, hs2, ← leS_lex]
      exact ⟨.bl _, H, I, rfl, q⟩
  · cases h
theorem cmp_ok (hK : M.K = X.K) (hu : X.A.units + 65 < cLine) (o : CO) : OpR X (compareOp (coOf o)) (rCmp M o) := by
  intro pins s σ H x y v u Q I rx ry h
  obtain ⟨F, d, e, t, hl, vx, vy, hb, q⟩ := h
  cases o with
  | eq => exact (eq_ok hK (by omega) I rx ry hl vx vy hb).1 q
  | ne =>
    obtain ⟨t', h1, rfl⟩ := Option.map_eq_some_iff.mp hb
    exact (eq_ok hK (by omega) I rx ry hl vx vy h1).2 q
  | lt => exact lt_ok hK (by omega) I rx ry hl vx vy hb q
  | le =>
    simp only [cmpD] at hb
    split at hb
    · cases hb; have := vx.int; have := vy.int; subst x y
      exact op_le pins s σ H _ _ v u Q I rx ry ⟨_, _, rfl, rfl, q⟩
    · cases hb; have := vx.str; have := vy.str; subst x y
      exact op_le_str pins s σ H _ _ v u Q I rx ry ⟨_, _, rfl, rfl, q⟩
    · exact le_ok hK (by omega) I rx ry hl vx vy hb q
    · cases hb
  | gt =>
    simp only [cmpD] at hb
    split at hb
    · cases hb; have := vx.int; have := vy.int; subst x y
      exact op_gt pins s σ H _ _ v u Q I rx ry ⟨_, _, rfl, rfl, q⟩
    · cases hb; have := vx.str; have := vy.str; subst x y
      exact op_gt_str pins s σ H _ _ v u Q I rx ry ⟨_, _, rfl, rfl, q⟩
    · cases hb
  | ge =>
    simp only [cmpD] at hb
    split at hb
    · cases hb; have := vx.int; have := vy.int; subst x y
      exact op_ge pins s σ H _ _ v u Q I rx ry ⟨_, _, rfl, rfl, q⟩
    · cases hb; have := vx.str; have := vy.str; subst x y
      exact op_ge_str pins s σ H _ _ v u Q I rx ry ⟨_, _, rfl, rfl, q⟩
    · cases hb
  | is =>
    simp only [cmpD] at hb
    split at hb
    · have := vy.non; subst y
      refine op_isN pins s σ H _ _ v u Q I rx ry ⟨rfl, ?_⟩
      split at hb
      · cases hb; have := vx.non; subst x; exact q
      · cases hb
        rename_i hd
        rw [decide_eq_false (vx.ne_non fun e => hd e)]; exact q
    · cases hb
  | isnot =>
    simp only [cmpD] at hb
    split at hb
    · have := vy.non; subst y
      refine op_notN pins s σ H _ _ v u Q I rx ry ⟨rfl, ?_⟩
      split at hb
      · cases hb; have := vx.non; subst x; exact q
      · cases hb
        rename_i hd
        rw [decide_eq_false (vx.ne_non fun e => hd e)]; exact q
    · cases hb
  | in_ => exact (in_ok hK hu I rx ry hl vx vy hb).1 q
  | notin =>
    obtain ⟨t', h1, rfl⟩ := Option.map_eq_some_iff.mp hb
    exact (in_ok hK hu I rx ry hl vx vy h1).2 q
end
end Ev
end

section
set_option maxHeartbeats 0
namespace Ev
open PySem PySem.Spec PyProof.Rows L2

structure Sta where
  O : Bool → Addr → Prop
  F : Hp
  H : Hp
abbrev sta (ρ : Rho) (σ : L2.St) (F H : Hp) : Sta := ⟨Fo ρ σ, F, H⟩
abbrev Sp' (S : Sta) (ρ : Rho) (σ : L2.St) (F H : Hp) : Prop := Stp S.O S.F S.H (Fo ρ σ) F H
def RepX (M : Mx) (F H : Hp) (x : D) (cls : Value) (dx : Option Addr) : Prop :=
  ∃ c fs C d vs, x = .exc c fs ∧ M.ca c = some C ∧ cls = .ref C ∧ dx = some d ∧ F d = some (.xd ((M.xf c).zip vs)) ∧ (M.xf c).length = vs.length ∧ RepsF M F fs vs
abbrev Pr (α β : Type) := Sta → Rho → Hp → Hp → α → β → Prop
section
variable (M : Mx) (W : L2.WX) (σ : L2.St)
def Post {α β : Type} (S : Sta) (P : Pr α β) (Q : β → Hp → Prop) : Option (R α) → Prop
  | some (.ok a ρ') => ∀ b F' H', Rl M ρ' σ F' H' → Sp' S ρ' σ F' H' → P S ρ' F' H' a b → Q b H'
  | some (.exc x ρ') => ∀ cls dx F' H', Rl M ρ' σ F' H' → Sp' S ρ' σ F' H' → RepX M F' H' x cls dx → W cls dx σ H'
  | none => False
/-- what is said of the end may be said from an earlier start -/
def Bk {α β : Type} (P : Pr α β) : Prop := ∀ S S1 ρ' F' H' a b, Stp S.O S.F S.H S1.O S1.F S1.H → P S1 ρ' F' H' a b → P S ρ' F' H' a b
def nv : Cell → Prop
  | .vw _ => False
  | _ => True
def PC : Pr Cell V := fun S ρ' F' H' c v => nv c ∧ RepC M F' H' c v ∧ ∀ a, owns c v a → (¬ Ow ρ' σ a ∧ ¬ Nw ρ' σ a) ∧ (S.O true a ∨ S.H a = none)
def Pd (ρ : Rho) (F H : Hp) : Od → V → Prop
  | .c c, v => nv c ∧ RepC M F H c v ∧ ∀ a, owns c v a → ¬ Ow ρ σ a ∧ ¬ Nw ρ σ a
  | .at_ i, v => σ[i]? = some (some v)
def PO : Pr Od V := fun S ρ' F' H' o v => Pd M σ ρ' F' H' o v
end
section
variable {M : Mx} {W : L2.WX} {σ : L2.St} {α β γ δ : Type} {S S1 : Sta} {ρ ρ1 : Rho} {F H F1 H1 : Hp}
theorem bk_PC : Bk (PC M σ) := fun S S1 ρ' F' H' c v s h => ⟨h.1, h.2.1, fun a ha => ⟨(h.2.2 a ha).1, s.back (h.2.2 a ha).2⟩⟩
theorem bk_PO : Bk (PO M σ) := fun S S1 ρ' F' H' c v s h => h
/-- from a later start -/
theorem Post.shift {P : Pr α β} {Q : β → Hp → Prop} {r : Option (R α)} (h : Post M W σ S P Q r) (bk : Bk P) (s : Stp S.O S.F S.H S1.O S1.F S1.H) : Post M W σ S1 P Q r := by
  match r, h with
  | some (.ok a ρ'), h => exact fun b F' H' R s' p => h b F' H' R (s.trans s') (bk _ _ _ _ _ _ _ s p)
  | some (.exc x ρ'), h => exact fun cls dx F' H' R s' p => h cls dx F' H' R (s.trans s') p
/-- one behind the other -/
theorem Post.bnd {P1 : Pr α β} {P2 : Pr γ δ} {Q1 : β → Hp → Prop} {Q2 : δ → Hp → Prop} {x : Option (R α)} {f : α → Rho → Option (R γ)} (h : Post M W σ S P2 Q2 (bnd x f)) (bk : Bk P2)
    (k : ∀ a ρ1 b F1 H1, x = some (.ok a ρ1) → Rl M ρ1 σ F1 H1 → Sp' S ρ1 σ F1 H1 → P1 S ρ1 F1 H1 a b → Post M W σ (sta ρ1 σ F1 H1) P2 Q2 (f a ρ1) → Q1 b H1) : Post M W σ S P1 Q1 x := by
  match x, h with
  | some (.ok a ρ'), h => exact fun b F' H' R s' p => k a ρ' b F' H' rfl R s' p (Post.shift h bk s')
  | some (.exc x ρ'), h => exact h
theorem Post.bnd' {P1 : Pr α β} {P2 : Pr γ δ} {Q1 : β → Hp → Prop} {Q2 : δ → Hp → Prop} {x : Option (R α)} {f : α → Rho → Option (R γ)} (h : Post M W σ S P2 Q2 (Ev.bnd x f))
    (k : ∀ a ρ1 b F1 H1, x = some (.ok a ρ1) → Rl M ρ1 σ F1 H1 → Sp' S ρ1 σ F1 H1 → P1 S ρ1 F1 H1 a b → Post M W σ S P2 Q2 (f a ρ1) → Q1 b H1) : Post M W σ S P1 Q1 x := by
  match x, h with
  | some (.ok a ρ'), h => exact fun b F' H' R s' p => k a ρ' b F' H' rfl R s' p h
  | some (.exc x ρ'), h => exact h
theorem Post.imp {P : Pr α β} {Q Q' : β → Hp → Prop} {r : Option (R α)} (h : Post M W σ S P Q r) (i : ∀ b H, Q b H → Q' b H) : Post M W σ S P Q' r := by
  match r, h with
  | some (.ok a ρ'), h => exact fun b F' H' R s' p => i _ _ (h b F' H' R s' p)
  | some (.exc x ρ'), h => exact h
theorem Post.ok {P : Pr α β} {Q : β → Hp → Prop} {a : α} {ρ' : Rho} (h : Post M W σ S P Q (some (.ok a ρ'))) {b : β} {F' H' : Hp} (R : Rl M ρ' σ F' H') (s : Sp' S ρ' σ F' H') (p : P S ρ' F' H' a b) : Q b H' := h b F' H' R s p
theorem Post.map {P : Pr α β} {Q : β → Hp → Prop} {r : Option γ} {f : γ → α} {ρ' : Rho} (h : Post M W σ S P Q (r.map fun c => .ok (f c) ρ')) : ∃ c, r = some c ∧ Post M W σ S P Q (some (.ok (f c) ρ')) := by
  match r, h with
  | some c, h => exact ⟨c, rfl, h⟩
  | none, h => exact h.elim

/-- an operand stays -/
theorem Pd.stp {o : Od} {v : V} (h : Pd M σ ρ F H o v) (R : Rl M ρ σ F H) (s : Stp (Fo ρ σ) F H (Fo ρ1 σ) F1 H1) : Pd M σ ρ1 F1 H1 o v := by
  cases o with
  | c c =>
    refine ⟨h.1, h.2.1.stp s fun a e ho => ?_, fun a ha => ⟨fun z => ?_, fun z => (h.2.2 a ha).2 (s.nw z)⟩⟩
    · rcases ho with ho | ⟨d, ho⟩
      · exact (h.2.2 a ⟨ho, e⟩).1
      · exact absurd h.1 (by rw [ho]; exact fun z => z)
    · rcases s.fresh a z with q | q
      · exact (h.2.2 a ha).1 q
      · obtain ⟨_, o, e2, _⟩ := (h.2.1.own ha.1).at ha.2
        rw [q] at e2; cases e2
  | at_ i => exact h
/-- an operand, looked at where the operation is done -/
theorem Pd.view {o : Od} {v : V} {d : D} (h : Pd M σ ρ F H o v) (R : Rl M ρ σ F H) (e : o.d ρ = some d) : View M F H d v := by
  cases o with
  | c c => cases e; exact h.2.1.view
  | at_ i =>
    simp only [Od.d] at e
    split at e
    · rename_i x hx
      cases e
      obtain ⟨v', e', r⟩ := R.cell i x hx
      rw [show σ[i]? = some (some v) from h] at e'
      cases e'
      exact r.view
    · cases e
/-- behind a new value -/
theorem Rl.new (R : Rl M ρ σ F H) (h1 : Ev.le F F1) (h2 : Ev.le H H1) (h3 : Ev.le F1 H1) (h4 : ∀ a, H a ≠ none → F1 a = F a) : Rl M ρ σ F1 H1 ∧ Stp (Fo ρ σ) F H (Fo ρ σ) F1 H1 := by
  have s : Stp (Fo ρ σ) F H (Fo ρ σ) F1 H1 := ⟨h1, fun a o e _ => ⟨h2 a o e, fun n => by rw [h4 a (by rw [e]; simp)]; exact n⟩, fun a h => by
    cases e : H a with
    | none => exact absurd e h
    | some o => rw [h2 a o e]; simp, fun a h => .inl h, fun i h => h⟩
  refine ⟨⟨R.len, h3, fun i c e => ?_, R.dis, R.vw⟩, s⟩
  obtain ⟨v, ev, r⟩ := R.cell i c e
  refine ⟨v, ev, ?_⟩
  have own : ∀ d, RepO M F H d v → RepO M F1 H1 d v := fun d ⟨a, o, e1, n, q, r⟩ => ⟨a, o, e1, by rw [h4 a (by rw [q]; simp)]; exact n, h2 _ _ q, r.mono h1⟩
  cases c with
  | fz d => exact RepF.mono h1 _ _ r
  | vw d =>
    obtain ⟨a, o, e2, q, r, n⟩ := r
    exact ⟨a, o, e2, h2 _ _ q, r.mono h1, by rw [h4 a (by rw [q]; simp)]; exact n⟩
  | lst ds => exact own _ r
  | dic ks ds => exact own _ r
theorem Post.new {c : Cell} {Q : VK} (h : Post M W σ (sta ρ σ F H) (PC M σ) Q (some (.ok c ρ))) (R : Rl M ρ σ F H) (hc : nv c) : New M F H c Q := fun v F' H' h1 h2 h3 h4 r ho => by
  obtain ⟨R', s⟩ := R.new h1 h2 h3 h4
  refine h.ok R' s ⟨hc, r, fun a ha => ⟨⟨fun z => absurd (ho a ha) (let ⟨vs, e, _⟩ := R.there z; by rw [e]; simp), fun z => absurd (ho a ha) (R.thereN z)⟩, .inr (ho a ha)⟩⟩
theorem Post.fz {d : D} {Q : VK} (h : Post M W σ (sta ρ σ F H) (PC M σ) Q (some (.ok (.fz d) ρ))) (R : Rl M ρ σ F H) {v : V} (r : RepF M F d v) : Q v H := (h.new R trivial).fz R.le r
/-- what is one's own becomes everybody's -/
theorem Rl.freeze (R : Rl M ρ σ F H) {i : Nat} {c0 : Cell} (e : ρ[i]? = some (some c0)) (ho : isOwn c0 = true) : ∃ a o, σ[i]? = some (some (.ref a)) ∧ H a = some o ∧ RepF M (L2.upd F a o) c0.d (.ref a) ∧ Rl M (ρ.set i (some (.fz c0.d))) σ (L2.upd F a o) H ∧
    Stp (Fo ρ σ) F H (Fo (ρ.set i (some (.fz c0.d))) σ) (L2.upd F a o) H := by
  obtain ⟨v, ev, r0⟩ := R.cell i _ e
  obtain ⟨a, o, rfl, n, q, r⟩ := r0.own ho
  have hle := Ev.le.upd (o := o) n
  have rf : RepF M (L2.upd F a o) c0.d (.ref a) := (r.mono hle).frz upd_same
  have hi : i < ρ.length := (List.getElem?_eq_some_iff.mp e).1
  have sub : ∀ b, Ow (ρ.set i (some (.fz c0.d))) σ b → Ow ρ σ b ∧ b ≠ a := fun b ⟨j, c, e1, e2, e3⟩ => by
    by_cases hj : j = i
    · subst hj
      rw [List.getElem?_set_self hi] at e1
      cases e1; cases e2
    · rw [List.getElem?_set_ne (Ne.symm hj)] at e1
      refine ⟨⟨j, c, e1, e2, e3⟩, fun z => ?_⟩
      subst z
      exact hj (R.dis j i c _ b e1 e e2 ho e3 ev)
  refine ⟨a, o, ev, q, rf, ⟨by rw [List.length_set]; exact R.len, Ev.le.frz R.le q, fun j c e1 => ?_, fun j k cj ck b e1 e2 o1 o2 s1 s2 => ?_, fun j d b e1 s1 z => ?_⟩, ⟨hle, fun b o e1 n1 => ⟨e1, fun n2 => ?_⟩, fun b z => z, fun b z => .inl (sub b z).1, fun j z => ?_⟩⟩
  · by_cases hj : j = i
    · subst hj
      rw [List.getElem?_set_self hi] at e1
      cases e1
      exact ⟨_, ev, rf⟩
    · rw [List.getElem?_set_ne (Ne.symm hj)] at e1
      obtain ⟨v, ev', r'⟩ := R.cell j c e1
      refine ⟨v, ev', ?_⟩
      have own : isOwn c = true → RepO M (L2.upd F a o) H c.d v := fun oc => by
        obtain ⟨b, o', e2, n2, q2, r2⟩ := r'.own oc
        refine ⟨b, o', e2, ?_, q2, r2.mono hle⟩
        rw [upd_ne fun z => ?_]; exact n2
        subst z
        subst e2
        exact hj (R.dis j i _ _ b e1 e oc ho ev' ev)
      cases c with
      | fz d => exact RepF.mono hle _ _ r'
      | vw d =>
        obtain ⟨b, o', e2, q2, r2, n2⟩ := r'
        have hb : b ≠ a := fun z => by
          subst z
          exact R.vw j d b e1 (by rw [ev', e2]) ⟨i, _, e, ho, ev⟩
        exact ⟨b, o', e2, q2, r2.mono hle, by rw [upd_ne hb]; exact n2⟩
      | lst ds' => exact own rfl
      | dic ks ds' => exact own rfl
  · by_cases hj : j = i
    · subst hj; rw [List.getElem?_set_self hi] at e1; cases e1; cases o1
    · by_cases hk : k = i
      · subst hk; rw [List.getElem?_set_self hi] at e2; cases e2; cases o2
      · rw [List.getElem?_set_ne (Ne.symm hj)] at e1
        rw [List.getElem?_set_ne (Ne.symm hk)] at e2
        exact R.dis j k cj ck b e1 e2 o1 o2 s1 s2
  · by_cases hj : j = i
    · subst hj; rw [List.getElem?_set_self hi] at e1; cases e1
    · rw [List.getElem?_set_ne (Ne.symm hj)] at e1
      exact R.vw j d b e1 s1 (sub b z).1
  · rw [upd_ne fun z => ?_]; exact n2
    subst z
    exact n1 ⟨i, _, e, ho, ev⟩
  · obtain ⟨d, e1⟩ := z
    by_cases hj : j = i
    · subst hj; rw [List.getElem?_set_self hi] at e1; cases e1
    · rw [List.getElem?_set_ne (Ne.symm hj)] at e1
      exact ⟨d, e1⟩
end
end Ev
end

section
set_option maxHeartbeats 0
namespace Ev
open PySem PySem.Spec PyProof.Rows L2

section
variable (g : G) (cl : Nat → List Cell → Option (R Cell)) (M : Mx) (W : L2.WX)
def tE (m : Ex) : TE := fun σ H Q => ∃ ρ F, Rl M ρ σ F H ∧ Post M W σ (sta ρ σ F H) (PC M σ) Q (evE g cl m ρ)
def tO (m : Ex) : TE := fun σ H Q => ∃ ρ F, Rl M ρ σ F H ∧ Post M W σ (sta ρ σ F H) (PO M σ) Q (opd m (evE g cl m ρ) ρ)
end
theorem pe_imp {X : Cx} {e : Expr} {t t' : TE} (h : PE X e t) (i : ∀ σ H Q, t' σ H Q → t σ H Q) : PE X e t' := ⟨fun pins s σ H Q I q => h.run pins s σ H Q I (i σ H Q q)⟩

section
variable {g : G} {cl : Nat → List Cell → Option (R Cell)} {M : Mx} {W : L2.WX} {X : Cx}
theorem opd_ne {m : Ex} (h : ∀ i, m ≠ .var i) (r : Option (R Cell)) (ρ : Rho) : opd m r ρ = bnd r fun c ρ => some (.ok (.c c) ρ) := by
  cases m <;> first | rfl | exact absurd rfl (h _)
theorem so_of {e : Expr} {m : Ex} (h : ∀ i, m ≠ .var i) (he : PE X e (tE g cl M W m)) : PE X e (tO g cl M W m) := by
  refine pe_imp he fun σ H Q ⟨ρ, F, R, p⟩ => ⟨ρ, F, R, ?_⟩
  rw [opd_ne h] at p
  refine Post.bnd p bk_PO fun c ρ1 v F1 H1 _ R1 s1 pc p2 => ?_
  exact p2.ok R1 (Stp.refl _ _ _) ⟨pc.1, pc.2.1, fun a ha => (pc.2.2 a ha).1⟩
/-- the value of a name that is live -/
theorem Rl.val {ρ : Rho} {σ : L2.St} {F H : Hp} (R : Rl M ρ σ F H) {i : Nat} {c : Cell} (h : ρ[i]? = some (some c)) : ∃ v, σ[i]? = some (some v) ∧ RepC M F H c v := R.cell i c h
theorem se_var {e : Expr} {i : Nat} (he : PE X e (tVar i)) : PE X e (tE g cl M W (.var i)) := by
  refine pe_imp he fun σ H Q ⟨ρ, F, R, p⟩ => ?_
  simp only [evE, rdV] at p
  split at p
  · rename_i d hd
    obtain ⟨v, ev, r⟩ := R.cell i _ hd
    exact ⟨v, ev, p.fz R r⟩
  · rename_i ds hd
    obtain ⟨a, o, ev, _, r, R', s⟩ := R.freeze hd rfl
    exact ⟨_, ev, p.ok R' s ⟨trivial, r, fun a h => absurd h.1 (by simp [isOwn])⟩⟩
  · rename_i ks ds hd
    obtain ⟨a, o, ev, _, r, R', s⟩ := R.freeze hd rfl
    exact ⟨_, ev, p.ok R' s ⟨trivial, r, fun a h => absurd h.1 (by simp [isOwn])⟩⟩
  · exact p.elim
theorem so_var {e : Expr} {i : Nat} (he : PE X e (tVar i)) : PE X e (tO g cl M W (.var i)) := by
  refine pe_imp he fun σ H Q ⟨ρ, F, R, p⟩ => ?_
  simp only [opd] at p
  split at p
  · rename_i d hd
    obtain ⟨v, ev, r⟩ := R.cell i _ hd
    exact ⟨v, ev, p.ok R (Stp.refl _ _ _) ⟨trivial, r, fun a h => absurd h.1 (by simp [isOwn])⟩⟩
  · rename_i c hc hd
    obtain ⟨v, ev, r⟩ := R.cell i _ hd
    exact ⟨v, ev, p.ok R (Stp.refl _ _ _) ev⟩
  · exact p.elim
theorem se_k {e : Expr} {d : D} {v : V} (he : PE X e (tC v)) (h : ∀ F, RepF M F d v) : PE X e (tE g cl M W (.k d)) := by
  refine pe_imp he fun σ H Q ⟨ρ, F, R, p⟩ => ?_
  simp only [evE] at p
  exact p.fz R (h F)
theorem se_glo {e : Expr} {x : Nat} {v : V} (he : PE X e (tC v)) (h : ∀ d, g.glo x = some d → ∀ F, RepF M F d v) : PE X e (tE g cl M W (.glo x)) := by
  refine pe_imp he fun σ H Q ⟨ρ, F, R, p⟩ => ?_
  simp only [evE] at p
  obtain ⟨d, hd, p⟩ := p.map
  exact p.fz R (h d hd F)

/-- two operands, then an operation -/
theorem two_ops {a b : Ex} {σ : L2.St} {H : Hp} {Q : VK} {f : D → D → Option Cell} {r : R2} {ρ : Rho} {F : Hp} (R : Rl M ρ σ F H)
    (p : Post M W σ (sta ρ σ F H) (PC M σ) Q (bnd (opd a (evE g cl a ρ) ρ) fun x ρ => bnd (opd b (evE g cl b ρ) ρ) fun y ρ => ap2 (x.d ρ) (y.d ρ) f ρ))
    (hn : ∀ d e c, f d e = some c → nv c)
    (hr : ∀ x y H2 F2 d e c, le F2 H2 → View M F2 H2 d x → View M F2 H2 e y → f d e = some c → New M F2 H2 c Q → r x y H2 Q) :
    tOp r (tO g cl M W a) (tO g cl M W b) σ H Q := by
  refine ⟨ρ, F, R, Post.bnd p bk_PC fun o1 ρ1 x F1 H1 e1 R1 s1 p1 p => ?_⟩
  refine ⟨ρ1, F1, R1, Post.bnd p bk_PC fun o2 ρ2 y F2 H2 e2 R2 s2 p2 p => ?_⟩
  unfold ap2 at p
  split at p
  · rename_i d e hd he
    obtain ⟨c, hc, p⟩ := p.map
    exact hr x y H2 F2 d e c R2.le ((p1.stp R1 s2).view R2 hd) (p2.view R2 he) hc (p.new R2 (hn d e c hc))
  · exact p.elim
theorem one_op {a : Ex} {σ : L2.St} {H : Hp} {Q : VK} {f : D → Option Cell} {r : V → Hp → VK → Prop} {ρ : Rho} {F : Hp} (R : Rl M ρ σ F H)
    (p : Post M W σ (sta ρ σ F H) (PC M σ) Q (bnd (opd a (evE g cl a ρ) ρ) fun x ρ => ap1 (x.d ρ) f ρ))
    (hn : ∀ d c, f d = some c → nv c)
    (hr : ∀ x H2 F2 d c, le F2 H2 → View M F2 H2 d x → f d = some c → New M F2 H2 c Q → r x H2 Q) :
    tO g cl M W a σ H (fun x H1 => r x H1 Q) := by
  refine ⟨ρ, F, R, Post.bnd p bk_PC fun o1 ρ1 x F1 H1 e1 R1 s1 p1 p => ?_⟩
  unfold ap1 at p
  split at p
  · rename_i d hd
    obtain ⟨c, hc, p⟩ := p.map
    exact hr x H1 F1 d c R1.le (p1.view R1 hd) hc (p.new R1 (hn d c hc))
  · exact p.elim
end
end Ev
end

section
set_option maxHeartbeats 0
namespace Ev
open PySem PySem.Spec PyProof.Rows L2

section
variable {g : G} {cl : Nat → List Cell → Option (R Cell)} {M : Mx} {W : L2.WX} {X : Cx}
theorem nv_bin {o : BO} {d e : D} {c : Cell} (h : binD o d e = some c) : nv c := by
  unfold binD at h
  split at h <;> first | (cases h; trivial) | (split at h <;> first | (cases h; trivial) | cases h) | cases h
theorem se_bin (hK : M.K = X.K) {a b : Expr} {ma mb : Ex} {o : BO} {pos : Pos} (ha : PE X a (tO g cl M W ma)) (hb : PE X b (tO g cl M W mb)) : PE X (.BinOp a (opOf o) b pos) (tE g cl M W (.bin o ma mb)) := by
  refine pe_imp (pe_op (bin_ok hK o) ha hb) fun σ H Q ⟨ρ, F, R, p⟩ => ?_
  simp only [evE] at p
  exact two_ops R p (fun _ _ _ => nv_bin) fun x y H2 F2 d e c h1 h2 h3 h4 h5 => ⟨F2, d, e, c, h1, h2, h3, h4, h5⟩
theorem se_cmp (hK : M.K = X.K) (hu : X.A.units + 65 < cLine) {a b : Expr} {ma mb : Ex} {o : CO} {pos : Pos} (ha : PE X a (tO g cl M W ma)) (hb : PE X b (tO g cl M W mb)) (hm : behindInMarks (coOf o) b = false) :
    PE X (.Compare a [coOf o] [b] pos) (tE g cl M W (.cmp o ma mb)) := by
  refine pe_imp (pe_cmpR (cmp_ok hK hu o) ha hb hm) fun σ H Q ⟨ρ, F, R, p⟩ => ?_
  simp only [evE] at p
  refine two_ops (f := fun d e => (cmpD o d e).map fun t => .fz (.bl t)) R p (fun d e c h => ?_) fun x y H2 F2 d e c h1 h2 h3 h4 h5 => ?_
  · obtain ⟨t, _, rfl⟩ := Option.map_eq_some_iff.mp h
    trivial
  · obtain ⟨t, ht, rfl⟩ := Option.map_eq_some_iff.mp h4
    exact ⟨F2, d, e, t, h1, h2, h3, ht, h5.fz h1 rfl⟩
theorem se_neg {a : Expr} {ma : Ex} {pos : Pos} (ha : PE X a (tE g cl M W ma)) : PE X (.UnaryOp .USub a pos) (tE g cl M W (.neg ma)) := by
  refine pe_imp (pe_un un_neg ha) fun σ H Q ⟨ρ, F, R, p⟩ => ⟨ρ, F, R, ?_⟩
  simp only [evE] at p
  refine Post.bnd p bk_PC fun c ρ1 v F1 H1 _ R1 s1 pc p => ?_
  split at p
  · exact ⟨_, pc.2.1, p.fz R1 rfl⟩
  · exact p.elim

theorem View.tru {F H : Hp} {d : D} {v : V} {t : Bool} (h : View M F H d v) (hl : Ev.le F H) (ht : truth d = some t) : TruV M.K v H t := by
  unfold truth at ht
  split at ht
  · cases ht; rw [h.non]; rfl
  · cases ht; rw [h.bl]; rfl
  · cases ht; rw [h.int]; rfl
  · split at ht
    · cases ht; rw [h.str]; exact ⟨by assumption, by rw [Bool.eq_iff_iff]; simp⟩
    · cases ht
  · cases ht
    rename_i ds
    obtain ⟨a, vs, rfl, q, r⟩ := h.sql hl
    refine .inl ⟨vs, q, ?_⟩
    have := r.len
    cases ds <;> cases vs <;> simp_all
  · cases ht
    rename_i ds
    obtain ⟨a, vs, rfl, q, r⟩ := h.sqt hl
    refine .inr (.inl ⟨vs, q, ?_⟩)
    have := r.len
    cases ds <;> cases vs <;> simp_all
  · cases ht
    rename_i ks ds
    obtain ⟨a, vs, rfl, q, l, r⟩ := h.dk hl
    refine .inr (.inr ⟨_, q, ?_⟩)
    cases ks <;> cases vs <;> simp_all
  · cases ht
def PT' (P : Bool → Bool → Prop) : Pr Bool Bool := fun _ _ _ _ a b => P a b
/-- a test -/
def tT (g : G) (cl : Nat → List Cell → Option (R Cell)) (M : Mx) (W : L2.WX) (m : Ex) : TT := fun σ H Q => ∃ ρ F, Rl M ρ σ F H ∧ Post M W σ (sta ρ σ F H) (PT' (· = ·)) Q (tst g cl m ρ)
theorem pt_imp {X : Cx} {e : Expr} {t t' : TT} (h : PT X e t) (i : ∀ σ H Q, t' σ H Q → t σ H Q) : PT X e t' := ⟨fun pins s σ H Q I q => h.run pins s σ H Q I (i σ H Q q)⟩
theorem bk_PT {P : Bool → Bool → Prop} : Bk (PT' P) := fun _ _ _ _ _ _ _ _ h => h
/-- any expression as a test, where its truth is asked for -/
theorem st_any (hK : M.K = X.K) {e : Expr} {m : Ex} (h : PE X e (tO g cl M W m)) (he : ∀ whole, isTrue e X.env whole = (do let v ← whole; standAt e.pos; holding [v] (truthy v))) : PT X e (tT g cl M W m) := by
  refine pt_imp (pt_truth h he) fun σ H Q ⟨ρ, F, R, p⟩ => ⟨ρ, F, R, ?_⟩
  refine Post.bnd p bk_PT fun o ρ1 v F1 H1 _ R1 s1 pd p => ?_
  split at p
  · rename_i d hd
    obtain ⟨t, ht, p⟩ := p.map
    refine ⟨t, ?_, p.ok R1 (Stp.refl _ _ _) rfl⟩
    rw [← hK]
    exact View.tru (pd.view R1 hd) R1.le ht
  · exact p.elim
theorem se_not (hK : M.K = X.K) {a : Expr} {ma : Ex} {pos : Pos} (ha : PE X a (tO g cl M W ma)) : PE X (.UnaryOp .Not a pos) (tE g cl M W (.not ma)) := by
  refine pe_imp (pe_notT ha) fun σ H Q ⟨ρ, F, R, p⟩ => ?_
  simp only [evE] at p
  refine one_op (r := fun x H1 Q => ∃ k, TruV X.K x H1 k ∧ Q (.bl (!k)) H1) R p (fun d c h => ?_) fun x H2 F2 d c h1 h2 h3 h4 => ?_
  · obtain ⟨t, _, rfl⟩ := Option.map_eq_some_iff.mp h
    trivial
  · obtain ⟨t, ht, rfl⟩ := Option.map_eq_some_iff.mp h3
    exact ⟨t, by rw [← hK]; exact View.tru h2 h1 ht, h4.fz h1 rfl⟩
theorem st_not (hK : M.K = X.K) {a : Expr} {ma : Ex} {pos : Pos} (ha : PT X a (tT g cl M W ma)) : PT X (.UnaryOp .Not a pos) (tT g cl M W (.not ma)) := by
  refine pt_imp (pt_not ha) fun σ H Q ⟨ρ, F, R, p⟩ => ⟨ρ, F, R, ?_⟩
  have e : tst g cl (.not ma) ρ = bnd (tst g cl ma ρ) fun t ρ => some (.ok (!t) ρ) := by
    unfold tst
    rw [opd_ne (by intro i z; cases z)]
    simp only [evE, ap1]
    cases opd ma (evE g cl ma ρ) ρ with
    | none => rfl
    | some q =>
      cases q with
      | exc x ρ' => rfl
      | ok o ρ' =>
        simp only [bnd]
        cases o.d ρ' with
        | none => rfl
        | some d =>
          simp only []
          cases truth d with
          | none => rfl
          | some t => rfl
  rw [e] at p
  refine Post.bnd p bk_PT fun t ρ1 b F1 H1 _ R1 s1 pd p => ?_
  subst pd
  exact p.ok R1 (Stp.refl _ _ _) rfl
theorem se_ife {c a b : Expr} {mc ma mb : Ex} {pos : Pos} (hc : PT X c (tT g cl M W mc)) (ha : PE X a (tE g cl M W ma)) (hb : PE X b (tE g cl M W mb)) : PE X (.IfExp c a b pos) (tE g cl M W (.ife mc ma mb)) := by
  refine pe_imp (pe_ifExp hc ha hb) fun σ H Q ⟨ρ, F, R, p⟩ => ⟨ρ, F, R, ?_⟩
  have e : evE g cl (.ife mc ma mb) ρ = bnd (tst g cl mc ρ) fun t ρ => if t = true then evE g cl ma ρ else evE g cl mb ρ := by
    unfold tst
    simp only [evE]
    cases opd mc (evE g cl mc ρ) ρ with
    | none => rfl
    | some q =>
      cases q with
      | exc x ρ' => rfl
      | ok o ρ' =>
        simp only [bnd]
        cases o.d ρ' with
        | none => rfl
        | some d =>
          simp only []
          cases truth d with
          | none => rfl
          | some t => cases t <;> rfl
  rw [e] at p
  refine Post.bnd p bk_PC fun t ρ1 b F1 H1 _ R1 s1 pd p => ?_
  subst pd
  cases t with
  | true => exact ⟨ρ1, F1, R1, p⟩
  | false => exact ⟨ρ1, F1, R1, p⟩

def PF (M : Mx) : Pr D V := fun _ _ F' _ d v => RepF M F' d v
theorem bk_PF : Bk (PF M) := fun _ _ _ _ _ _ _ _ h => h
/-- a new list becomes everybody's -/
theorem tmp_frz {σ : L2.St} {S : Sta} {ρ : Rho} {F H : Hp} {c : Cell} {v : V} (R : Rl M ρ σ F H) (s : Sp' S ρ σ F H) (p : PC M σ S ρ F H c v) : ∃ F', Rl M ρ σ F' H ∧ Sp' S ρ σ F' H ∧ RepF M F' c.d v := by
  obtain ⟨hn, r, ho⟩ := p
  by_cases oc : isOwn c = true
  · obtain ⟨a, o, rfl, n, q, r⟩ := r.own oc
    obtain ⟨na, fr⟩ := ho a ⟨oc, rfl⟩
    have hle := le.upd (o := o) n
    refine ⟨L2.upd F a o, ⟨R.len, le.frz R.le q, fun i c e => ?_, R.dis, R.vw⟩, ⟨s.mono.trans hle, fun b o e1 n1 => ?_, s.stay, s.fresh, s.see⟩, (r.mono hle).frz upd_same⟩
    · obtain ⟨v, ev, r'⟩ := R.cell i c e
      refine ⟨v, ev, ?_⟩
      have own : isOwn c = true → RepO M (L2.upd F a o) H c.d v := fun oc => by
        obtain ⟨b, o', e2, n2, q2, r2⟩ := r'.own oc
        have hb : b ≠ a := fun z => na.1 ⟨i, _, e, oc, by rw [ev, e2, z]⟩
        exact ⟨b, o', e2, by rw [upd_ne hb]; exact n2, q2, r2.mono hle⟩
      cases c with
      | fz d => exact RepF.mono hle _ _ r'
      | vw d =>
        obtain ⟨b, o', e2, q2, r2, n2⟩ := r'
        have hb : b ≠ a := fun z => na.2 ⟨i, d, e, by rw [ev, e2, z]⟩
        exact ⟨b, o', e2, q2, r2.mono hle, by rw [upd_ne hb]; exact n2⟩
      | lst ds' => exact own rfl
      | dic ks ds' => exact own rfl
    · obtain ⟨e2, k⟩ := s.keep b o e1 n1
      refine ⟨e2, fun z => ?_⟩
      have hb : b ≠ a := fun z => by
        subst z
        rcases fr with f | f
        · exact n1 f
        · rw [e1] at f; cases f
      rw [upd_ne hb]; exact k z
  · cases c with
    | fz d => exact ⟨F, R, s, r⟩
    | vw d => exact hn.elim
    | lst ds => exact absurd rfl oc
    | dic ks ds => exact absurd rfl oc
def tF (g : G) (cl : Nat → List Cell → Option (R Cell)) (M : Mx) (W : L2.WX) (m : Ex) : TE := fun σ H Q => ∃ ρ F, Rl M ρ σ F H ∧ Post M W σ (sta ρ σ F H) (PF M) Q (bnd (evE g cl m ρ) fun c ρ => some (.ok c.d ρ))
theorem sf_of {e : Expr} {m : Ex} (he : PE X e (tE g cl M W m)) : PE X e (tF g cl M W m) := by
  refine pe_imp he fun σ H Q ⟨ρ, F, R, p⟩ => ⟨ρ, F, R, ?_⟩
  cases hx : evE g cl m ρ with
  | none => rw [hx] at p; exact p.elim
  | some q =>
    rw [hx] at p
    cases q with
    | exc x ρ1 => exact p
    | ok c ρ1 =>
      intro v F1 H1 R1 s1 pc
      obtain ⟨F2, R2, s2, r2⟩ := tmp_frz R1 s1 pc
      exact p.ok R2 s2 r2

def nst : Expr → Bool
  | .Starred .. => false
  | _ => true
theorem star_of {e : Expr} {es : List Expr} {env : Env} (h : nst e = true) : starEach (e :: es) env = (false, eval e env) :: starEach es env := by
  cases e <;> first | rfl | (simp [nst] at h)
theorem pa_imp {X : Cx} {e : List Expr} {t t' : TA} (h : PA X e t) (i : ∀ σ H Q, t' σ H Q → t σ H Q) : PA X e t' := ⟨fun pos pins s σ H Q I q => h.run pos pins s σ H Q I (i σ H Q q)⟩
def Pds (M : Mx) (σ : L2.St) (ρ : Rho) (F H : Hp) : List Od → List V → Prop
  | [], vs => vs = []
  | o :: os, vs => ∃ v r, vs = v :: r ∧ Pd M σ ρ F H o v ∧ Pds M σ ρ F H os r
def POs (M : Mx) (σ : L2.St) : Pr (List Od) (List V) := fun _ ρ' F' H' os vs => Pds M σ ρ' F' H' os vs
theorem bk_POs {σ : L2.St} : Bk (POs M σ) := fun _ _ _ _ _ _ _ _ h => h
theorem Pds.views {σ : L2.St} {ρ : Rho} {F H : Hp} (R : Rl M ρ σ F H) : ∀ {os : List Od} {vs : List V} {ds : List D}, Pds M σ ρ F H os vs → odsD ρ os = some ds → Paired (fun d v => View M F H d v) ds vs
  | [], _, _, e, h => by rw [show _ = [] from e]; cases h; exact .nil
  | o :: os, _, ds, ⟨v, r, e, p, ps⟩, h => by
    subst e
    simp only [odsD] at h
    split at h
    · rename_i d ds' h1 h2
      cases h
      exact .cons (p.view R h1) (Pds.views R ps h2)
    · cases h
def tOs (g : G) (cl : Nat → List Cell → Option (R Cell)) (M : Mx) (W : L2.WX) (ms : Es) : TA := fun σ H Q => ∃ ρ F, Rl M ρ σ F H ∧ Post M W σ (sta ρ σ F H) (POs M σ) Q (evO g cl ms ρ)
theorem sos_nil : PA X [] (tOs g cl M W .nil) := pa_imp pa_nil fun σ H Q ⟨ρ, F, R, p⟩ => p.ok R (Stp.refl _ _ _) rfl
theorem sos_cons {e : Expr} {es : List Expr} {b : Bool} {m : Ex} {ms : Es} (hn : nst e = true) (he : PE X e (tO g cl M W m)) (hs : PA X es (tOs g cl M W ms)) : PA X (e :: es) (tOs g cl M W (.cons b m ms)) := by
  refine pa_imp (pa_cons he hs (star_of hn)) fun σ H Q ⟨ρ, F, R, p⟩ => ⟨ρ, F, R, ?_⟩
  simp only [evO] at p
  refine Post.bnd p bk_POs fun o ρ1 v F1 H1 _ R1 s1 pd p => ⟨ρ1, F1, R1, ?_⟩
  refine Post.bnd p bk_POs fun os ρ2 vs F2 H2 _ R2 s2 pds p => ?_
  exact p.ok R2 (Stp.refl _ _ _) ⟨v, vs, rfl, pd.stp R1 s2, pds⟩
def PFs (M : Mx) : Pr (List D) (List V) := fun _ _ F' _ ds vs => RepsF M F' ds vs
theorem bk_PFs : Bk (PFs M) := fun _ _ _ _ _ _ _ _ h => h
def tD (g : G) (cl : Nat → List Cell → Option (R Cell)) (M : Mx) (W : L2.WX) (ms : Es) : TA := fun σ H Q => ∃ ρ F, Rl M ρ σ F H ∧ Post M W σ (sta ρ σ F H) (PFs M) Q (evD g cl ms ρ)
theorem bnd_assoc {α β γ : Type} (x : Option (R α)) (f : α → Rho → Option (R β)) (k : β → Rho → Option (R γ)) : bnd (bnd x f) k = bnd x fun a ρ => bnd (f a ρ) k := by
  cases x with
  | none => rfl
  | some q => cases q <;> rfl
theorem sd_nil : PA X [] (tD g cl M W .nil) := pa_imp pa_nil fun σ H Q ⟨ρ, F, R, p⟩ => p.ok R (Stp.refl _ _ _) rfl
theorem sd_cons {e : Expr} {es : List Expr} {m : Ex} {ms : Es} (hn : nst e = true) (he : PE X e (tE g cl M W m)) (hs : PA X es (tD g cl M W ms)) : PA X (e :: es) (tD g cl M W (.cons false m ms)) := by
  refine pa_imp (pa_cons (sf_of he) hs (star_of hn)) fun σ H Q ⟨ρ, F, R, p⟩ => ⟨ρ, F, R, ?_⟩
  simp only [evD] at p
  have e1 : (bnd (evE g cl m ρ) fun c ρ => bnd (evD g cl ms ρ) fun ds ρ => some (.ok (c.d :: ds) ρ)) = bnd (bnd (evE g cl m ρ) fun c ρ => some (.ok c.d ρ)) fun d ρ => bnd (evD g cl ms ρ) fun ds ρ => some (.ok (d :: ds) ρ) := by
    rw [bnd_assoc]; rfl
  rw [e1] at p
  refine Post.bnd p bk_PFs fun d ρ1 v F1 H1 _ R1 s1 pd p => ⟨ρ1, F1, R1, ?_⟩
  refine Post.bnd p bk_PFs fun ds ρ2 vs F2 H2 _ R2 s2 pds p => ?_
  exact p.ok R2 (Stp.refl _ _ _) ⟨v, vs, rfl, RepF.mono s2.mono _ _ pd, pds⟩
theorem se_tup {es : List Expr} {ms : Es} {k : Nat} {pos : Pos} (h : PA X es (tD g cl M W ms)) : PE X (.Tuple es k pos) (tE g cl M W (.tup ms)) := by
  refine pe_imp (pe_tup h) fun σ H Q ⟨ρ, F, R, p⟩ => ⟨ρ, F, R, ?_⟩
  simp only [evE] at p
  refine Post.bnd p bk_PC fun ds ρ1 vs F1 H1 _ R1 s1 r p => ?_
  split at p
  · rename_i hz
    have := (show RepsF M F1 ds vs from r).len
    exact ⟨by omega, fun q hq => (p.new R1 trivial).tup R1.le hq r⟩
  · exact p.elim
theorem se_lst {es : List Expr} {ms : Es} {pos : Pos} (h : PA X es (tD g cl M W ms)) : PE X (.List es pos) (tE g cl M W (.lst ms)) := by
  refine pe_imp (pe_lst h) fun σ H Q ⟨ρ, F, R, p⟩ => ⟨ρ, F, R, ?_⟩
  simp only [evE] at p
  refine Post.bnd p bk_PC fun ds ρ1 vs F1 H1 _ R1 s1 r p => ?_
  split at p
  · rename_i hz
    have := (show RepsF M F1 ds vs from r).len
    exact ⟨by omega, fun q hq => (p.new R1 trivial).lst R1.le hq r⟩
  · exact p.elim
end
end Ev
end

section
set_option maxHeartbeats 0
namespace Ev
open PySem PySem.Spec PyProof.Rows L2

section
variable {g : G} {cl : Nat → List Cell → Option (R Cell)} {M : Mx} {W : L2.WX} {X : Cx}
abbrev truC (c : Cell) (ρ : Rho) : Option (R Bool) := (truth c.d).map fun t => .ok t ρ
theorem Post.truth {σ : L2.St} {S : Sta} {Q : Bool → Hp → Prop} {r : Option (R Cell)} (p : Post M W σ S (PT' (· = ·)) Q (Ev.bnd r truC)) (h : ∀ c ρ, r = some (.ok c ρ) → ∃ t, c = .fz (.bl t)) :
    Post M W σ S (PC M σ) (fun v H => ∃ k, v = .bl k ∧ Q k H) r := by
  match r, p, h with
  | some (.ok c ρ'), p, h =>
    obtain ⟨t, rfl⟩ := h c ρ' rfl
    intro v F' H' R s pc
    exact ⟨t, pc.2.1, p t F' H' R s rfl⟩
  | some (.exc x ρ'), p, h => exact p
  | none, p, h => exact p
theorem tst_ne {m : Ex} (h : ∀ i, m ≠ .var i) (ρ : Rho) : tst g cl m ρ = bnd (evE g cl m ρ) truC := by
  unfold tst
  rw [opd_ne h, bnd_assoc]
  rfl
theorem i_cmp {σ : L2.St} {H : Hp} {Q : VK} {o : CO} {ma mb : Ex} (h : tE g cl M W (.cmp o ma mb) σ H Q) : tOp (rCmp M o) (tO g cl M W ma) (tO g cl M W mb) σ H Q := by
  obtain ⟨ρ, F, R, p⟩ := h
  simp only [evE] at p
  refine two_ops R p (fun d e c h => ?_) fun x y H2 F2 d e c h1 h2 h3 h4 h5 => ?_
  · obtain ⟨t, _, rfl⟩ := Option.map_eq_some_iff.mp h
    trivial
  · obtain ⟨t, ht, rfl⟩ := Option.map_eq_some_iff.mp h4
    exact ⟨F2, d, e, t, h1, h2, h3, ht, h5.fz h1 rfl⟩
theorem bnd_some {α β : Type} {x : Option (R α)} {f : α → Rho → Option (R β)} {b : β} {ρ : Rho} (h : bnd x f = some (.ok b ρ)) : ∃ a ρ1, x = some (.ok a ρ1) ∧ f a ρ1 = some (.ok b ρ) := by
  cases x with
  | none => cases h
  | some q =>
    cases q with
    | ok a ρ1 => exact ⟨a, ρ1, rfl, h⟩
    | exc _ _ => cases h
theorem cmp_bl {o : CO} {ma mb : Ex} {ρ ρ' : Rho} {c : Cell} (h : evE g cl (.cmp o ma mb) ρ = some (.ok c ρ')) : ∃ t, c = .fz (.bl t) := by
  simp only [evE] at h
  obtain ⟨a, ρ1, _, h⟩ := bnd_some h
  obtain ⟨b, ρ2, _, h⟩ := bnd_some h
  unfold ap2 at h
  split at h
  · obtain ⟨c', hc, h⟩ := Option.map_eq_some_iff.mp h
    obtain ⟨t, _, rfl⟩ := Option.map_eq_some_iff.mp hc
    cases h
    exact ⟨t, rfl⟩
  · cases h
theorem st_cmp (hK : M.K = X.K) (hu : X.A.units + 65 < cLine) {a b : Expr} {ma mb : Ex} {o : CO} {pos : Pos} (ha : PE X a (tO g cl M W ma)) (hb : PE X b (tO g cl M W mb)) (hm : behindInMarks (coOf o) b = false) :
    PT X (.Compare a [coOf o] [b] pos) (tT g cl M W (.cmp o ma mb)) := by
  refine pt_imp (pt_cmpR (cmp_ok hK hu o) ha hb hm) fun σ H Q ⟨ρ, F, R, p⟩ => i_cmp ⟨ρ, F, R, Post.truth ?_ fun c ρ' h => cmp_bl h⟩
  rw [← tst_ne (by intro i z; cases z)]
  exact p

theorem i_cmp2 {σ : L2.St} {H : Hp} {Q : VK} {o1 o2 : CO} {ma mb mc : Ex} (h : tE g cl M W (.cmp2 o1 o2 ma mb mc) σ H Q) : tChain (rCmp M o1) (rCmp M o2) (tF g cl M W ma) (tF g cl M W mb) (tF g cl M W mc) σ H Q := by
  obtain ⟨ρ, F, R, p⟩ := h
  have e : evE g cl (.cmp2 o1 o2 ma mb mc) ρ = bnd (bnd (evE g cl ma ρ) fun c ρ => some (.ok c.d ρ)) fun x ρ => bnd (bnd (evE g cl mb ρ) fun c ρ => some (.ok c.d ρ)) fun y ρ =>
      match cmpD o1 x y with
      | some true => bnd (bnd (evE g cl mc ρ) fun c ρ => some (.ok c.d ρ)) fun z ρ => (cmpD o2 y z).map fun t => .ok (.fz (.bl t)) ρ
      | some false => some (.ok (.fz (.bl false)) ρ)
      | none => none := by
    simp only [evE, bnd_assoc]
    rfl
  rw [e] at p
  refine ⟨ρ, F, R, Post.bnd p bk_PC fun x ρ1 v F1 H1 _ R1 s1 px p => ?_⟩
  refine ⟨ρ1, F1, R1, Post.bnd p bk_PC fun y ρ2 w F2 H2 _ R2 s2 py p => ?_⟩
  have vx : View M F2 H2 x v := .inl (RepF.mono s2.mono _ _ px)
  have vy : View M F2 H2 y w := .inl py
  split at p
  · rename_i ht
    refine ⟨F2, x, y, true, R2.le, vx, vy, ht, true, rfl, ?_⟩
    rw [if_pos rfl]
    refine ⟨ρ2, F2, R2, Post.bnd p bk_PC fun z ρ3 u F3 H3 _ R3 s3 pz p => ?_⟩
    obtain ⟨t, ht, p⟩ := p.map
    exact ⟨F3, y, z, t, R3.le, .inl (RepF.mono s3.mono _ _ py), .inl pz, ht, p.fz R3 rfl⟩
  · rename_i ht
    refine ⟨F2, x, y, false, R2.le, vx, vy, ht, false, rfl, ?_⟩
    rw [if_neg Bool.false_ne_true]
    exact p.fz R2 rfl
  · exact p.elim
theorem cmp2_bl {o1 o2 : CO} {ma mb mc : Ex} {ρ ρ' : Rho} {c : Cell} (h : evE g cl (.cmp2 o1 o2 ma mb mc) ρ = some (.ok c ρ')) : ∃ t, c = .fz (.bl t) := by
  simp only [evE] at h
  obtain ⟨a, ρ1, _, h⟩ := bnd_some h
  obtain ⟨b, ρ2, _, h⟩ := bnd_some h
  split at h
  · obtain ⟨z, ρ3, _, h⟩ := bnd_some h
    obtain ⟨t, _, h⟩ := Option.map_eq_some_iff.mp h
    cases h
    exact ⟨t, rfl⟩
  · cases h; exact ⟨false, rfl⟩
  · cases h
theorem se_cmp2 (hK : M.K = X.K) (hu : X.A.units + 65 < cLine) {a b c : Expr} {ma mb mc : Ex} {o1 o2 : CO} {pos : Pos} (ha : PE X a (tE g cl M W ma)) (hb : PE X b (tE g cl M W mb)) (hc : PE X c (tE g cl M W mc)) (hm : lastMarks [coOf o1, coOf o2] [b, c] = false) :
    PE X (.Compare a [coOf o1, coOf o2] [b, c] pos) (tE g cl M W (.cmp2 o1 o2 ma mb mc)) :=
  pe_imp (pe_chain (cmp_ok hK hu o1) (cmp_ok hK hu o2) (sf_of ha) (sf_of hb) (sf_of hc) hm) fun _ _ _ h => i_cmp2 h
theorem st_cmp2 (hK : M.K = X.K) (hu : X.A.units + 65 < cLine) {a b c : Expr} {ma mb mc : Ex} {o1 o2 : CO} {pos : Pos} (ha : PE X a (tE g cl M W ma)) (hb : PE X b (tE g cl M W mb)) (hc : PE X c (tE g cl M W mc)) (hm : lastMarks [coOf o1, coOf o2] [b, c] = false) :
    PT X (.Compare a [coOf o1, coOf o2] [b, c] pos) (tT g cl M W (.cmp2 o1 o2 ma mb mc)) :=
  pt_imp (pt_chain (cmp_ok hK hu o1) (cmp_ok hK hu o2) (sf_of ha) (sf_of hb) (sf_of hc) hm) fun σ H Q ⟨ρ, F, R, p⟩ => i_cmp2 ⟨ρ, F, R, Post.truth (by rw [← tst_ne (by intro i z; cases z)]; exact p) fun c ρ' h => cmp2_bl h⟩

def tV (g : G) (cl : Nat → List Cell → Option (R Cell)) (M : Mx) (W : L2.WX) (m : Ex) : TT := fun σ H Q => ∃ ρ F, Rl M ρ σ F H ∧ Post M W σ (sta ρ σ F H) (PT' (· = ·)) Q (bnd (evE g cl m ρ) truC)
theorem sv_of {e : Expr} {m : Ex} (h : ∀ i, m ≠ .var i) (he : PT X e (tT g cl M W m)) : PT X e (tV g cl M W m) :=
  pt_imp he fun σ H Q ⟨ρ, F, R, p⟩ => ⟨ρ, F, R, by rw [tst_ne h]; exact p⟩
theorem sv_any (hK : M.K = X.K) {e : Expr} {m : Ex} (h : PE X e (tE g cl M W m)) (he : ∀ whole, isTrue e X.env whole = (do let v ← whole; standAt e.pos; holding [v] (truthy v))) : PT X e (tV g cl M W m) := by
  refine pt_imp (pt_truth h he) fun σ H Q ⟨ρ, F, R, p⟩ => ⟨ρ, F, R, ?_⟩
  refine Post.bnd p bk_PT fun c ρ1 v F1 H1 _ R1 s1 pc p => ?_
  obtain ⟨t, ht, p⟩ := p.map
  refine ⟨t, ?_, p.ok R1 (Stp.refl _ _ _) rfl⟩
  rw [← hK]
  exact View.tru pc.2.1.view R1.le ht
def tAs (g : G) (cl : Nat → List Cell → Option (R Cell)) (M : Mx) (W : L2.WX) (ms : Es) : TE := fun σ H Q => ∃ ρ F, Rl M ρ σ F H ∧ Post M W σ (sta ρ σ F H) (PC M σ) Q (evAnd g cl ms ρ)
def tOr' (g : G) (cl : Nat → List Cell → Option (R Cell)) (M : Mx) (W : L2.WX) (ms : Es) : TE := fun σ H Q => ∃ ρ F, Rl M ρ σ F H ∧ Post M W σ (sta ρ σ F H) (PC M σ) Q (evOr g cl ms ρ)
def tAsT (g : G) (cl : Nat → List Cell → Option (R Cell)) (M : Mx) (W : L2.WX) (ms : Es) : TT := fun σ H Q => ∃ ρ F, Rl M ρ σ F H ∧ Post M W σ (sta ρ σ F H) (PT' (· = ·)) Q (bnd (evAnd g cl ms ρ) truC)
def tOrT' (g : G) (cl : Nat → List Cell → Option (R Cell)) (M : Mx) (W : L2.WX) (ms : Es) : TT := fun σ H Q => ∃ ρ F, Rl M ρ σ F H ∧ Post M W σ (sta ρ σ F H) (PT' (· = ·)) Q (bnd (evOr g cl ms ρ) truC)
theorem pw_imp {X : Cx} {e : Expr} {t t' : TT} (h : PW X e t) (i : ∀ σ H Q, t' σ H Q → t σ H Q) : PW X e t' := ⟨fun wh pins s σ H Q I q => h.run wh pins s σ H Q I (i σ H Q q)⟩
theorem evAnd_one {b : Bool} {m : Ex} {ρ : Rho} : evAnd g cl (.cons b m .nil) ρ = evE g cl m ρ := by simp only [evAnd]
theorem evOr_one {b : Bool} {m : Ex} {ρ : Rho} : evOr g cl (.cons b m .nil) ρ = evE g cl m ρ := by simp only [evOr]
theorem evAnd_two {b b' : Bool} {m m' : Ex} {ms : Es} {ρ : Rho} : evAnd g cl (.cons b m (.cons b' m' ms)) ρ = bnd (evE g cl m ρ) fun c ρ => match truth c.d with
      | some true => evAnd g cl (.cons b' m' ms) ρ
      | some false => some (.ok c ρ)
      | none => none := by rw [evAnd] <;> first | rfl | (intro h; cases h)
theorem evOr_two {b b' : Bool} {m m' : Ex} {ms : Es} {ρ : Rho} : evOr g cl (.cons b m (.cons b' m' ms)) ρ = bnd (evE g cl m ρ) fun c ρ => match truth c.d with
      | some true => some (.ok c ρ)
      | some false => evOr g cl (.cons b' m' ms) ρ
      | none => none := by rw [evOr] <;> first | rfl | (intro h; cases h)
theorem sa_one {a : Expr} {b : Bool} {m : Ex} {op : BoolOp} {pos : Pos} (ha : PE X a (tE g cl M W m)) : PE X (.BoolOp op [a] pos) (tAs g cl M W (.cons b m .nil)) ∧ PE X (.BoolOp op [a] pos) (tOr' g cl M W (.cons b m .nil)) :=
  ⟨pe_imp (pe_one ha) fun σ H Q ⟨ρ, F, R, p⟩ => ⟨ρ, F, R, by rw [← evAnd_one]; exact p⟩, pe_imp (pe_one ha) fun σ H Q ⟨ρ, F, R, p⟩ => ⟨ρ, F, R, by rw [← evOr_one]; exact p⟩⟩
theorem sa_and (hK : M.K = X.K) {a a' : Expr} {r : List Expr} {b b' : Bool} {m m' : Ex} {ms : Es} {pos : Pos} (ha : PE X a (tE g cl M W m)) (hr : PE X (.BoolOp .And (a' :: r) pos) (tAs g cl M W (.cons b' m' ms))) :
    PE X (.BoolOp .And (a :: a' :: r) pos) (tAs g cl M W (.cons b m (.cons b' m' ms))) := by
  refine pe_imp (pe_andT ha hr) fun σ H Q ⟨ρ, F, R, p⟩ => ⟨ρ, F, R, ?_⟩
  rw [evAnd_two] at p
  refine Post.bnd' p fun c ρ1 v F1 H1 _ R1 s1 pc p => ?_
  split at p
  · rename_i ht
    refine ⟨true, by rw [← hK]; exact View.tru pc.2.1.view R1.le ht, ?_⟩
    rw [if_pos rfl]
    exact ⟨ρ1, F1, R1, p.shift bk_PC s1⟩
  · rename_i ht
    refine ⟨false, by rw [← hK]; exact View.tru pc.2.1.view R1.le ht, ?_⟩
    rw [if_neg Bool.false_ne_true]
    exact p.ok R1 s1 pc
  · exact p.elim
theorem sa_or (hK : M.K = X.K) {a a' : Expr} {r : List Expr} {b b' : Bool} {m m' : Ex} {ms : Es} {pos : Pos} (ha : PE X a (tE g cl M W m)) (hr : PE X (.BoolOp .Or (a' :: r) pos) (tOr' g cl M W (.cons b' m' ms))) :
    PE X (.BoolOp .Or (a :: a' :: r) pos) (tOr' g cl M W (.cons b m (.cons b' m' ms))) := by
  refine pe_imp (pe_orT ha hr) fun σ H Q ⟨ρ, F, R, p⟩ => ⟨ρ, F, R, ?_⟩
  rw [evOr_two] at p
  refine Post.bnd' p fun c ρ1 v F1 H1 _ R1 s1 pc p => ?_
  split at p
  · rename_i ht
    refine ⟨true, by rw [← hK]; exact View.tru pc.2.1.view R1.le ht, ?_⟩
    rw [if_pos rfl]
    exact p.ok R1 s1 pc
  · rename_i ht
    refine ⟨false, by rw [← hK]; exact View.tru pc.2.1.view R1.le ht, ?_⟩
    rw [if_neg Bool.false_ne_true]
    exact ⟨ρ1, F1, R1, p.shift bk_PC s1⟩
  · exact p.elim
theorem sw_one {a : Expr} {b : Bool} {m : Ex} {pos : Pos} (ha : PT X a (tV g cl M W m)) : PW X (.BoolOp .And [a] pos) (tAsT g cl M W (.cons b m .nil)) ∧ PW X (.BoolOp .Or [a] pos) (tOrT' g cl M W (.cons b m .nil)) :=
  ⟨pw_imp (pw_and1 ha) fun σ H Q ⟨ρ, F, R, p⟩ => ⟨ρ, F, R, by rw [← evAnd_one (b := b)]; exact p⟩, pw_imp (pw_or1 ha) fun σ H Q ⟨ρ, F, R, p⟩ => ⟨ρ, F, R, by rw [← evOr_one (b := b)]; exact p⟩⟩
theorem sw_and {a a' : Expr} {r : List Expr} {b b' : Bool} {m m' : Ex} {ms : Es} {pos : Pos} (ha : PT X a (tV g cl M W m)) (hr : PW X (.BoolOp .And (a' :: r) pos) (tAsT g cl M W (.cons b' m' ms))) :
    PW X (.BoolOp .And (a :: a' :: r) pos) (tAsT g cl M W (.cons b m (.cons b' m' ms))) := by
  refine pw_imp (pw_and ha hr) fun σ H Q ⟨ρ, F, R, p⟩ => ⟨ρ, F, R, ?_⟩
  have e : bnd (evAnd g cl (.cons b m (.cons b' m' ms)) ρ) truC = bnd (bnd (evE g cl m ρ) truC) fun t ρ => if t = true then bnd (evAnd g cl (.cons b' m' ms) ρ) truC else some (.ok false ρ) := by
    rw [evAnd_two, bnd_assoc, bnd_assoc]
    congr 1
    funext c ρ
    unfold truC
    cases h : truth c.d with
    | none => rfl
    | some t => cases t <;> simp [bnd, h]
  rw [e] at p
  refine Post.bnd p bk_PT fun t ρ1 t' F1 H1 _ R1 s1 pt p => ?_
  subst pt
  cases t with
  | true => exact ⟨ρ1, F1, R1, p⟩
  | false => exact p.ok R1 (Stp.refl _ _ _) rfl
theorem sw_or {a a' : Expr} {r : List Expr} {b b' : Bool} {m m' : Ex} {ms : Es} {pos : Pos} (ha : PT X a (tV g cl M W m)) (hr : PW X (.BoolOp .Or (a' :: r) pos) (tOrT' g cl M W (.cons b' m' ms))) :
    PW X (.BoolOp .Or (a :: a' :: r) pos) (tOrT' g cl M W (.cons b m (.cons b' m' ms))) := by
  refine pw_imp (pw_or ha hr) fun σ H Q ⟨ρ, F, R, p⟩ => ⟨ρ, F, R, ?_⟩
  have e : bnd (evOr g cl (.cons b m (.cons b' m' ms)) ρ) truC = bnd (bnd (evE g cl m ρ) truC) fun t ρ => if t = true then some (.ok true ρ) else bnd (evOr g cl (.cons b' m' ms) ρ) truC := by
    rw [evOr_two, bnd_assoc, bnd_assoc]
    congr 1
    funext c ρ
    unfold truC
    cases h : truth c.d with
    | none => rfl
    | some t => cases t <;> simp [bnd, h]
  rw [e] at p
  refine Post.bnd p bk_PT fun t ρ1 t' F1 H1 _ R1 s1 pt p => ?_
  subst pt
  cases t with
  | true => exact p.ok R1 (Stp.refl _ _ _) rfl
  | false => exact ⟨ρ1, F1, R1, p⟩
theorem se_and {es : List Expr} {ms : Es} {pos : Pos} (h : PE X (.BoolOp .And es pos) (tAs g cl M W ms)) : PE X (.BoolOp .And es pos) (tE g cl M W (.and ms)) :=
  pe_imp h fun σ H Q ⟨ρ, F, R, p⟩ => ⟨ρ, F, R, by simpa only [evE] using p⟩
theorem se_or {es : List Expr} {ms : Es} {pos : Pos} (h : PE X (.BoolOp .Or es pos) (tOr' g cl M W ms)) : PE X (.BoolOp .Or es pos) (tE g cl M W (.or ms)) :=
  pe_imp h fun σ H Q ⟨ρ, F, R, p⟩ => ⟨ρ, F, R, by simpa only [evE] using p⟩
theorem st_and {es : List Expr} {ms : Es} {pos : Pos} (h : PW X (.BoolOp .And es pos) (tAsT g cl M W ms)) : PT X (.BoolOp .And es pos) (tT g cl M W (.and ms)) :=
  pt_imp h.pt fun σ H Q ⟨ρ, F, R, p⟩ => ⟨ρ, F, R, by rw [tst_ne (by intro i z; cases z)] at p; simpa only [evE] using p⟩
theorem st_or {es : List Expr} {ms : Es} {pos : Pos} (h : PW X (.BoolOp .Or es pos) (tOrT' g cl M W ms)) : PT X (.BoolOp .Or es pos) (tT g cl M W (.or ms)) :=
  pt_imp h.pt fun σ H Q ⟨ρ, F, R, p⟩ => ⟨ρ, F, R, by rw [tst_ne (by intro i z; cases z)] at p; simpa only [evE] using p⟩

def rIxD (M : Mx) : R2 := fun x y H Q => ∃ F d e r, le F H ∧ View M F H d x ∧ View M F H e y ∧ ixD d e = some r ∧ New M F H (.fz r) Q
theorem ix_ok (hK : M.K = X.K) : IxR X (rIxD M) := by
  intro value slice pins s σ H x y v u Q I rx ry h hp
  obtain ⟨F, d, e, r, hl, vx, vy, hb, q⟩ := h
  unfold ixD at hb
  split at hb
  · rename_i ds i
    split at hb
    · rename_i j hj
      obtain ⟨a, vs, rfl, h1, r1⟩ := vx.sql hl
      have := vy.int; subst y
      rw [hK] at h1
      obtain ⟨w, hw, rw'⟩ := r1.get hb
      exact ix_list value slice pins s σ H _ _ v u Q I rx ry ⟨a, vs, i, w, rfl, rfl, h1, by unfold atI; rw [← r1.len, show ixN _ _ = some j from hj]; exact hw, q.fz hl rw'⟩ hp
    · cases hb
  · rename_i ds i
    split at hb
    · rename_i j hj
      obtain ⟨a, vs, rfl, h1, r1⟩ := vx.sqt hl
      have := vy.int; subst y
      rw [hK] at h1
      obtain ⟨w, hw, rw'⟩ := r1.get hb
      exact ix_tup value slice pins s σ H _ _ v u Q I rx ry ⟨a, vs, i, w, rfl, rfl, h1, by unfold atI; rw [← r1.len, show ixN _ _ = some j from hj]; exact hw, q.fz hl rw'⟩ hp
    · cases hb
  · split at hb
    · rename_i hz
      split at hb
      · rename_i j hj
        have := vx.str; have := vy.int; subst x y
        obtain ⟨c, hc, rfl⟩ := Option.map_eq_some_iff.mp hb
        exact ix_str value slice pins s σ H _ _ v u Q I rx ry ⟨_, _, c, rfl, rfl, hz, by unfold atI; rw [show ixN _ _ = some j from hj]; exact hc, q.fz hl rfl⟩ hp
      · cases hb
    · cases hb
  · cases hb
theorem se_ix (hK : M.K = X.K) {a i : Expr} {ma mi : Ex} {pos : Pos} (ha : PE X a (tO g cl M W ma)) (hi : PE X i (tO g cl M W mi)) (hp : PlainIxT i) : PE X (.Subscript a i pos) (tE g cl M W (.ix ma mi)) := by
  refine pe_imp (pe_ix (ix_ok hK) ha hi hp) fun σ H Q ⟨ρ, F, R, p⟩ => ?_
  simp only [evE] at p
  refine two_ops R p (fun d e c h => ?_) fun x y H2 F2 d e c h1 h2 h3 h4 h5 => ?_
  · obtain ⟨t, _, rfl⟩ := Option.map_eq_some_iff.mp h
    trivial
  · obtain ⟨t, ht, rfl⟩ := Option.map_eq_some_iff.mp h4
    exact ⟨F2, d, e, t, h1, h2, h3, ht, h5⟩

theorem RepsF.cut {F : Hp} {ds : List D} {vs : List V} (r : RepsF M F ds vs) (lo hi : Option Int) : RepsF M F (Ev.cut ds lo hi) (cutV vs lo hi) := by
  unfold Ev.cut cutV
  rw [← r.len]
  exact RepsF.take _ (RepsF.drop _ r)
def rSlD (M : Mx) : V → Option Int → Option Int → Hp → VK → Prop := fun x lo hi H Q => ∃ F d c, le F H ∧ View M F H d x ∧ slD d lo hi false = some c ∧ New M F H c Q
theorem sl_ok (hK : M.K = X.K) : SlR X (rSlD M) := by
  intro pins s σ H x v vl vu lo hi sl Q I rx hs pl pu ⟨F, d, c, hl, vx, hb, q⟩
  unfold slD at hb
  simp only at hb
  split at hb
  · cases hb
    obtain ⟨a, vs, rfl, h1, r1⟩ := vx.sql hl
    rw [hK] at h1
    exact sl_list pins s σ H _ v vl vu lo hi sl Q I rx hs pl pu ⟨a, vs, rfl, h1, fun p hp => q.lst hl hp (r1.cut lo hi)⟩
  · rename_i ds
    cases hb
    obtain ⟨a, vs, rfl, h1, r1⟩ := vx.sqt hl
    rw [hK] at h1
    refine sl_tupA pins s σ H _ v vl vu lo hi sl Q I rx hs pl pu ⟨a, vs, rfl, h1, fun z => ?_, fun _ p hp => q.tup hl hp (r1.cut lo hi)⟩
    have e : Ev.cut ds lo hi = ds := by
      unfold Ev.cut
      rw [r1.len, z.1, z.2, Nat.sub_zero, List.drop_zero, ← r1.len, List.take_length]
    rw [e] at q
    exact q.fz hl (vx.frz rfl)
  · split at hb
    · cases hb
      have := vx.str; subst x
      exact sl_str pins s σ H _ v vl vu lo hi sl Q I rx hs pl pu ⟨_, rfl, by assumption, q.fz hl rfl⟩
    · cases hb
  · cases hb
def PPart : Pr (Option Int) (Option Int) := fun _ _ _ _ a b => a = b
theorem bk_PPart : Bk PPart := fun _ _ _ _ _ _ _ _ h => h
def tPt (g : G) (cl : Nat → List Cell → Option (R Cell)) (M : Mx) (W : L2.WX) (p : Bool) (m : Ex) : L2.TO := fun σ H Q => ∃ ρ F, Rl M ρ σ F H ∧ Post M W σ (sta ρ σ F H) PPart Q (evPart p (evE g cl m ρ) ρ)
theorem po_imp {X : Cx} {e : Option Expr} {t t' : L2.TO} (h : L2.PO X e t) (i : ∀ σ H Q, t' σ H Q → t σ H Q) : L2.PO X e t' := ⟨fun pins s σ H Q I q => h.run pins s σ H Q I (i σ H Q q)⟩
theorem sp_none {m : Ex} : L2.PO X none (tPt g cl M W false m) := po_imp po_none fun σ H Q ⟨ρ, F, R, p⟩ => p.ok R (Stp.refl _ _ _) rfl
theorem sp_some {e : Expr} {m : Ex} (h : PE X e (tE g cl M W m)) : L2.PO X (some e) (tPt g cl M W true m) := by
  refine po_imp (po_some h) fun σ H Q ⟨ρ, F, R, p⟩ => ⟨ρ, F, R, ?_⟩
  unfold evPart at p
  rw [if_pos rfl] at p
  refine Post.bnd p bk_PPart fun c ρ1 v F1 H1 _ R1 s1 pc p => ?_
  have hv := pc.2.1.view
  split at p
  · rename_i i hi
    rw [hi] at hv
    exact ⟨_, hv.int, p.ok R1 (Stp.refl _ _ _) rfl⟩
  · exact p.elim
theorem nv_sl {d : D} {lo hi : Option Int} {b : Bool} {c : Cell} (h : slD d lo hi b = some c) : nv c := by
  unfold slD at h
  split at h
  · split at h <;> first | (cases h; trivial) | (split at h <;> first | (cases h; trivial) | cases h) | cases h
  · split at h <;> first | (cases h; trivial) | cases h
theorem se_sl (hK : M.K = X.K) {a : Expr} {lo hi : Option Expr} {ma ml mh : Ex} {lp hp : Bool} {p2 pos : Pos} (ha : PE X a (tO g cl M W ma)) (hl : L2.PO X lo (tPt g cl M W lp ml)) (hh : L2.PO X hi (tPt g cl M W hp mh)) :
    PE X (.Subscript a (.Slice lo hi none p2) pos) (tE g cl M W (.sl ma lp ml hp mh false)) := by
  refine pe_imp (pe_slice (sl_ok hK) ha hl hh) fun σ H Q ⟨ρ, F, R, p⟩ => ⟨ρ, F, R, ?_⟩
  simp only [evE] at p
  refine Post.bnd p bk_PC fun o ρ1 x F1 H1 _ R1 s1 po p => ⟨ρ1, F1, R1, ?_⟩
  refine Post.bnd p bk_PC fun l ρ2 l' F2 H2 _ R2 s2 pl p => ⟨ρ2, F2, R2, ?_⟩
  refine Post.bnd p bk_PC fun h ρ3 h' F3 H3 _ R3 s3 ph p => ?_
  cases pl; cases ph
  unfold ap1 at p
  split at p
  · rename_i d hd
    obtain ⟨c, hc, p⟩ := p.map
    exact ⟨F3, d, c, R3.le, ((po.stp R1 s2).stp R2 s3).view R3 hd, hc, p.new R3 (nv_sl hc)⟩
  · exact p.elim
theorem RepsF.rev {F : Hp} {ds : List D} {vs : List V} (r : RepsF M F ds vs) : RepsF M F ds.reverse vs.reverse := by
  induction ds generalizing vs with
  | nil => rw [show vs = [] from r]; exact rfl
  | cons d ds ih =>
    obtain ⟨v, w, e, x, y⟩ := r
    subst e
    rw [List.reverse_cons, List.reverse_cons]
    exact (ih y).app ⟨v, [], rfl, x, rfl⟩
theorem se_rev (hK : M.K = X.K) {a : Expr} {ma ml mh : Ex} {k : Nat} {p1 p2 p3 pos : Pos} (ha : PE X a (tO g cl M W ma)) :
    PE X (.Subscript a (.Slice none none (some (.UnaryOp .USub (.Constant (.int 1) k p1) p2)) p3) pos) (tE g cl M W (.sl ma false ml false mh true)) := by
  refine pe_imp (pe_revL ha) fun σ H Q ⟨ρ, F, R, p⟩ => ?_
  simp only [evE, evPart, Bool.false_eq_true, if_false, bnd] at p
  refine one_op (f := fun d => slD d none none true) (r := fun x H1 Q => ∃ a xs, x = .ref a ∧ SqL X.K H1 a xs ∧ ∀ p, H1 p = none → Q (.ref p) (L2.upd H1 p (.lst xs.reverse))) R p (fun d c h => nv_sl h) fun x H2 F2 d c h1 h2 h3 h4 => ?_
  unfold slD at h3
  simp only at h3
  split at h3
  · cases h3
    obtain ⟨a, vs, rfl, q1, r1⟩ := h2.sql h1
    rw [hK] at q1
    exact ⟨a, vs, rfl, q1, fun p hp => h4.lst h1 hp r1.rev⟩
  · cases h3
end
end Ev
end

section
set_option maxHeartbeats 0
namespace Ev
open PySem PySem.Spec PyProof.Rows L2

section
variable {α β : Type}
theorem insL_eq {le : α → α → Bool} {x : α} : ∀ {l1 l2 : List α}, (∀ b ∈ l1, le x b = false) → (∀ b ∈ l2, le x b = true) → insL le x (l1 ++ l2) = l1 ++ x :: l2
  | [], [], _, _ => rfl
  | [], b :: l2, _, h => by simp [insL, h b (by simp)]
  | a :: l1, l2, h1, h2 => by
    have ih := insL_eq (le := le) (x := x) (l1 := l1) (l2 := l2) (fun b hb => h1 b (by simp [hb])) h2
    simp [insL, h1 a (by simp), ih]
theorem isort_eq {le : α → α → Bool} (tr : ∀ a b c, le a b = true → le b c = true → le a c = true) (to : ∀ a b, (le a b || le b a) = true) : ∀ l : List α, isort le l = l.mergeSort le
  | [] => by simp [isort]
  | x :: l => by
    obtain ⟨l1, l2, e1, e2, h⟩ := List.mergeSort_cons tr to x l
    have hp := List.pairwise_mergeSort tr to (x :: l)
    rw [e1] at hp ⊢
    rw [isort, isort_eq tr to l, e2]
    refine insL_eq (fun b hb => by simpa using h b hb) fun b hb => ?_
    have := List.pairwise_append.mp hp
    exact (List.pairwise_cons.mp this.2.1).1 b hb
theorem insL_map {le : α → α → Bool} {le' : β → β → Bool} {f : α → β} (h : ∀ a b, le a b = le' (f a) (f b)) (x : α) : ∀ l : List α, (insL le x l).map f = insL le' (f x) (l.map f)
  | [] => rfl
  | y :: l => by
    simp only [insL, List.map_cons, ← h]
    split
    · rfl
    · rw [List.map_cons, insL_map h x l]
theorem isort_map {le : α → α → Bool} {le' : β → β → Bool} {f : α → β} (h : ∀ a b, le a b = le' (f a) (f b)) : ∀ l : List α, (isort le l).map f = isort le' (l.map f)
  | [] => rfl
  | x :: l => by rw [isort, insL_map h, isort_map h l]; rfl
theorem insL_congr {le le' : α → α → Bool} {P : α → Prop} (h : ∀ a b, P a → P b → le a b = le' a b) (x : α) (px : P x) : ∀ l : List α, (∀ a ∈ l, P a) → insL le x l = insL le' x l
  | [], _ => rfl
  | y :: l, hl => by
    simp only [insL]
    rw [h x y px (hl y (by simp)), insL_congr h x px l fun a ha => hl a (by simp [ha])]
theorem insL_mem {le : α → α → Bool} {x a : α} : ∀ {l : List α}, a ∈ insL le x l ↔ a = x ∨ a ∈ l
  | [] => by simp [insL]
  | y :: l => by
    simp only [insL]
    split
    · simp
    · simp only [List.mem_cons, insL_mem (l := l)]
      constructor
      · rintro (h | h | h) <;> simp [h]
      · rintro (h | h | h) <;> simp [h]
theorem isort_mem {le : α → α → Bool} {a : α} : ∀ {l : List α}, a ∈ isort le l ↔ a ∈ l
  | [] => by simp [isort]
  | y :: l => by rw [isort, insL_mem, isort_mem (l := l), List.mem_cons]
theorem isort_congr {le le' : α → α → Bool} {P : α → Prop} (h : ∀ a b, P a → P b → le a b = le' a b) : ∀ l : List α, (∀ a ∈ l, P a) → isort le l = isort le' l
  | [], _ => rfl
  | x :: l, hl => by
    rw [isort, isort, isort_congr h l fun a ha => hl a (by simp [ha])]
    exact insL_congr h x (hl x (by simp)) _ fun a ha => hl a (by simp [isort_mem.mp ha])
theorem isort_len {le : α → α → Bool} : ∀ l : List α, (isort le l).length = l.length
  | [] => rfl
  | x :: l => by
    have hi : ∀ (y : α) (m : List α), (insL le y m).length = m.length + 1 := fun y m => by
      induction m with
      | nil => rfl
      | cons z m ih => simp only [insL]; split <;> simp_all
    rw [isort, hi, isort_len l]; rfl
end

def blV : Bl → Option Value
  | .len => some (.builtin "len") | .abs => some (.builtin "abs") | .int => some (.type "int") | .str => some (.type "str") | .bool => some (.type "bool")
  | .max => some (.builtin "max") | .min => some (.builtin "min") | .sum => some (.builtin "sum") | .all => some (.builtin "all") | .any => some (.builtin "any")
  | .sorted => some (.builtin "sorted") | .tuple => some (.type "tuple") | .list => some (.type "list") | .sortset => none | .lenset => none
def blN : Bl → Str
  | .len => "len" | .abs => "abs" | .int => "int" | .str => "str" | .bool => "bool" | .max => "max" | .min => "min" | .sum => "sum" | .all => "all" | .any => "any"
  | .sorted => "sorted" | .tuple => "tuple" | .list => "list" | .sortset => "sorted" | .lenset => "len"
theorem blV_boot : ∀ (b : Bl) (u : Value), blV b = some u → bootBuiltins (blN b) = some u
  | .len, _, h => by cases h; decide +kernel
  | .abs, _, h => by cases h; decide +kernel
  | .int, _, h => by cases h; decide +kernel
  | .str, _, h => by cases h; decide +kernel
  | .bool, _, h => by cases h; decide +kernel
  | .max, _, h => by cases h; decide +kernel
  | .min, _, h => by cases h; decide +kernel
  | .sum, _, h => by cases h; decide +kernel
  | .all, _, h => by cases h; decide +kernel
  | .any, _, h => by cases h; decide +kernel
  | .sorted, _, h => by cases h; decide +kernel
  | .tuple, _, h => by cases h; decide +kernel
  | .list, _, h => by cases h; decide +kernel
  | .sortset, _, h => by cases h
  | .lenset, _, h => by cases h
abbrev Views (M : Mx) (F H : Hp) (ds : List D) (vs : List V) : Prop := Paired (fun d v => View M F H d v) ds vs
def rBlt (M : Mx) (b : Bl) : List V → Hp → VK → Prop := fun vs H Q => ∃ F ds c, le F H ∧ Views M F H ds vs ∧ bltD b ds = some c ∧ New M F H c Q
section
variable {M : Mx} {X : Cx} {F H : Hp}
theorem Views.one {d : D} {vs : List V} (h : Views M F H [d] vs) : ∃ v, vs = [v] ∧ View M F H d v := by
  cases h with
  | cons a t => cases t; exact ⟨_, rfl, a⟩
theorem Views.two {d e : D} {vs : List V} (h : Views M F H [d, e] vs) : ∃ v w, vs = [v, w] ∧ View M F H d v ∧ View M F H e w := by
  cases h with
  | cons a t =>
    cases t with
    | cons b t => cases t; exact ⟨_, _, rfl, a, b⟩
theorem maxI_ge : ∀ (l : List Int) (m : Int), m ≤ maxI m l ∧ (∀ y ∈ l, y ≤ maxI m l) ∧ (maxI m l = m ∨ maxI m l ∈ l)
  | [], m => ⟨Int.le_refl _, by simp, .inl rfl⟩
  | i :: l, m => by
    by_cases h : m < i
    · obtain ⟨h1, h2, h3⟩ := maxI_ge l i
      simp only [maxI, if_pos h]
      refine ⟨by omega, fun y hy => ?_, ?_⟩
      · rcases List.mem_cons.mp hy with rfl | hy
        · exact h1
        · exact h2 y hy
      · rcases h3 with h3 | h3
        · rw [h3]; simp
        · exact .inr (by simp [h3])
    · obtain ⟨h1, h2, h3⟩ := maxI_ge l m
      simp only [maxI, if_neg h]
      refine ⟨h1, fun y hy => ?_, ?_⟩
      · rcases List.mem_cons.mp hy with rfl | hy
        · omega
        · exact h2 y hy
      · rcases h3 with h3 | h3
        · exact .inl h3
        · exact .inr (by simp [h3])
theorem minI_le : ∀ (l : List Int) (m : Int), minI m l ≤ m ∧ (∀ y ∈ l, minI m l ≤ y) ∧ (minI m l = m ∨ minI m l ∈ l)
  | [], m => ⟨Int.le_refl _, by simp, .inl rfl⟩
  | i :: l, m => by
    by_cases h : i < m
    · obtain ⟨h1, h2, h3⟩ := minI_le l i
      simp only [minI, if_pos h]
      refine ⟨by omega, fun y hy => ?_, ?_⟩
      · rcases List.mem_cons.mp hy with rfl | hy
        · exact h1
        · exact h2 y hy
      · rcases h3 with h3 | h3
        · rw [h3]; simp
        · exact .inr (by simp [h3])
    · obtain ⟨h1, h2, h3⟩ := minI_le l m
      simp only [minI, if_neg h]
      refine ⟨h1, fun y hy => ?_, ?_⟩
      · rcases List.mem_cons.mp hy with rfl | hy
        · omega
        · exact h2 y hy
      · rcases h3 with h3 | h3
        · exact .inl h3
        · exact .inr (by simp [h3])
theorem toPs_map : ∀ {ds : List D} {ps : List PyData}, toPs ds = some ps → ps = ds.map (fun d => (toP d).getD .none) ∧ ∀ d ∈ ds, (toP d).isSome = true
  | [], ps, h => by simp only [toPs, Option.some.injEq] at h; subst h; exact ⟨rfl, by simp⟩
  | d :: ds, ps, h => by
    simp only [toPs] at h
    split at h
    · rename_i p ps' h1 h2
      cases h
      obtain ⟨e, k⟩ := toPs_map h2
      refine ⟨by rw [List.map_cons, h1, ← e]; rfl, fun x hx => ?_⟩
      rcases List.mem_cons.mp hx with rfl | hx
      · rw [h1]; rfl
      · exact k x hx
    · cases h
abbrev pOf (d : D) : PyData := (toP d).getD .none
theorem each_zip : ∀ {ds : List D} {vs : List V} {us : List Value}, ds.length = vs.length → Vals vs us → PySem.W.EachIs (fun (u : Value) (b : V × D) => RelV b.1 u) us (vs.zip ds)
  | _, [], _, _, r => by cases r; exact .nil
  | [], v :: vs, _, h, r => by cases h
  | d :: ds, v :: vs, _, h, r => by
    cases r with
    | cons a t => exact .cons a (each_zip (by simpa using h) t)
theorem each_vals : ∀ {bs : List (V × D)} {us : List Value}, PySem.W.EachIs (fun (u : Value) (b : V × D) => RelV b.1 u) us bs → Vals (bs.map (·.1)) us
  | [], _, h => by cases h; exact .nil
  | b :: bs, _, h => by
    cases h with
    | cons a t => exact .cons a (each_vals t)
theorem each_reads {pins : List (Addr × Obj)} {s : Shared} {σ : L2.St} (hK : M.K = X.K) (I : Inv X pins σ H s) (hl : le F H) : ∀ {ds : List D} {vs : List V} {us : List Value}, (∀ d ∈ ds, (toP d).isSome = true) → RepsF M F ds vs → Vals vs us →
    PySem.W.EachIs (fun (u : Value) (b : V × D) => ∃ as, Reads s.heap u (pOf b.2) as) us (vs.zip ds)
  | [], _, _, _, e, r => by rw [show _ = [] from e] at r ⊢; cases r; exact .nil
  | d :: ds, _, _, hs, ⟨v, w, e, x, y⟩, r => by
    subst e
    cases r with
    | cons a t =>
      refine .cons ?_ (each_reads hK I hl (fun d hd => hs d (by simp [hd])) y t)
      obtain ⟨p, hp⟩ := Option.isSome_iff_exists.mp (hs d (by simp))
      have dp := toP_dp d v p (RepF.mono hl _ _ x) hp
      rw [hK] at dp
      show ∃ as, Reads s.heap _ ((toP d).getD .none) as
      rw [hp]
      exact Dp.reads I _ _ _ dp a
theorem RepsF.ofZip : ∀ {bs : List (V × D)}, (∀ b ∈ bs, RepF M F b.2 b.1) → RepsF M F (bs.map (·.2)) (bs.map (·.1))
  | [], _ => rfl
  | b :: bs, h => ⟨_, _, rfl, h b (by simp), RepsF.ofZip fun c hc => h c (by simp [hc])⟩
theorem RepsF.zipMem : ∀ {ds : List D} {vs : List V}, RepsF M F ds vs → ∀ b ∈ vs.zip ds, RepF M F b.2 b.1
  | [], _, e, b, hb => by rw [show _ = [] from e] at hb; simp at hb
  | d :: ds, _, ⟨v, w, e, x, y⟩, b, hb => by
    subst e
    rcases List.mem_cons.mp (by simpa using hb) with h | h
    · cases h; exact x
    · exact RepsF.zipMem y b h
/-- sorted -/
theorem sort_ok (hK : M.K = X.K) (hu : X.A.units + 80 < cLine) {pins : List (Addr × Obj)} {s : Shared} {σ : L2.St} (I : Inv X pins σ H s) (hl : le F H) {a : Addr} {vs : List V} {ds ds' : List D} {Q : VK}
    (ha : SqL X.K H a vs) (r : RepsF M F ds vs) (hs : sortD ds = some ds') (q : New M F H (.lst ds') Q) : wpAny (model X.prog X.w) X.A (call (.builtin "sorted") [.ref a]) (EP X pins σ Q) X.xe s := by
  unfold sortD at hs
  split at hs
  · rename_i ps hps
    split at hs
    · rename_i hc
      cases hs
      simp only [Bool.and_eq_true, Bool.or_eq_true, decide_eq_true_eq, List.all_eq_true] at hc
      obtain ⟨⟨⟨h1, h2⟩, h3⟩, h4⟩ := hc
      obtain ⟨ep, hsome⟩ := toPs_map hps
      obtain ⟨its, rv, pl, hz⟩ := I.list ha
      have hlen := r.len
      have hzip : (vs.zip ds).map (·.2) = ds := by rw [List.map_snd_zip (by omega)]
      have hzip1 : (vs.zip ds).map (·.1) = vs := by rw [List.map_fst_zip (by omega)]
      have hmap : (vs.zip ds).map (fun b : V × D => pOf b.2) = ps := by
        rw [ep, show (vs.zip ds).map (fun b : V × D => pOf b.2) = ((vs.zip ds).map (·.2)).map pOf from by rw [List.map_map]; rfl, hzip]
      have hzl : (vs.zip ds).length = ds.length := by rw [List.length_zip]; omega
      refine PySem.W.sorted_data (enc := fun b : V × D => pOf b.2) pl.isList (each_zip hlen rv) (each_reads hK I hl hsome r rv) ?_ ?_ (by rw [hzl]; exact h4) (fun b hb => ?_) fun out ho he => ?_
      · rw [hmap]
        exact fun d hd d' hd' => h1 d hd d' hd'
      · rw [hmap]
        rcases h2 with h2 | h2
        · refine .inl fun p hp => ?_
          rw [ep] at hp
          obtain ⟨d, hd, rfl⟩ := List.mem_map.mp hp
          have hs := hsome d hd
          have ht := h2 d hd
          unfold isTupP at ht
          split at ht
          · rename_i x xs
            obtain ⟨p, hp⟩ := Option.isSome_iff_exists.mp hs
            rw [hp]
            simp only [toP, toPs] at hp
            split at hp
            · rename_i ps' hps'
              split at hps'
              · cases hps'; cases hp
                exact ⟨_, _, rfl⟩
              · cases hps'
            · cases hp
          · cases ht
        · refine .inr fun p hp => ?_
          rw [ep] at hp
          obtain ⟨d, hd, rfl⟩ := List.mem_map.mp hp
          have hs := hsome d hd
          have ht := h2 d hd
          cases d with
          | non => cases ht
          | tup _ => cases ht
          | bl b => exact ⟨by simp [toP], by simp [toP]⟩
          | int b => exact ⟨by simp [toP], by simp [toP]⟩
          | str b => exact ⟨by simp [toP], by simp [toP]⟩
          | lst l =>
            simp only [toP] at hs ⊢
            split at hs
            · simp [*]
            · cases hs
          | dic _ => simp [toP] at hs
          | ins _ _ => simp [toP] at hs
          | exc _ _ => simp [toP] at hs
          | fn _ => simp [toP] at hs
      · have hb2 : b.2 ∈ ds := by rw [← hzip]; exact List.mem_map.mpr ⟨b, hb, rfl⟩
        have := SeqAt.depth_of_shaped (h3 (pOf b.2) (by rw [ep]; exact List.mem_map.mpr ⟨b.2, hb2, rfl⟩))
        omega
      · obtain ⟨e, hat⟩ := sortedAll_at s.heap its out.toArray
        have hle := PySem.W.sortLe_total (PyProof.Rows.listOrd PyProof.Rows.itemOrd) false fun b : V × D => PySem.W.keyToks (pOf b.2)
        have hs : (vs.zip ds).mergeSort (PySem.W.dataLe false fun b : V × D => pOf b.2) = isort (PySem.W.dataLe false fun b : V × D => pOf b.2) (vs.zip ds) :=
          (isort_eq (fun a b c => hle.trans a b c) (fun a b => by rw [Bool.or_eq_true]; exact hle.total a b) _).symm
        rw [hs] at he
        have hv := each_vals he
        have hd : (isort (PySem.W.dataLe false fun b : V × D => pOf b.2) (vs.zip ds)).map (·.2) = isort leP ds := by
          have hh : isort (PySem.W.dataLe false fun b : V × D => pOf b.2) (vs.zip ds) = isort (fun b c : V × D => leP b.2 c.2) (vs.zip ds) := by
            refine isort_congr (P := fun b => (toP b.2).isSome = true) (fun b c hb hc => ?_) _ fun b hb => hsome b.2 (by rw [← hzip]; exact List.mem_map.mpr ⟨b, hb, rfl⟩)
            obtain ⟨p, hp⟩ := Option.isSome_iff_exists.mp hb
            obtain ⟨p', hp'⟩ := Option.isSome_iff_exists.mp hc
            rw [PySem.W.dataLe_eq]
            unfold leP
            simp only [pOf, hp, hp', Option.getD_some, cond_false]
          rw [hh, isort_map (le' := leP) (f := fun b : V × D => b.2) fun _ _ => rfl, hzip]
        have hr := RepsF.ofZip (M := M) (F := F) (bs := isort (PySem.W.dataLe false fun b : V × D => pOf b.2) (vs.zip ds)) fun b hb => r.zipMem b (isort_mem.mp hb)
        rw [hd] at hr
        have hn : s.heap.get? (s.heap.objs.size + 1) = none := Heap.get?_none_of_le (Nat.le_succ _)
        have hHn : H (s.heap.objs.size + 1) = none := I.hok.fresh (Nat.le_succ _)
        refine ⟨.ref (s.heap.objs.size + 1), _, I.laidN (o := .lst ((isort (PySem.W.dataLe false fun b : V × D => pOf b.2) (vs.zip ds)).map (·.1))) (t' := s.toks) (fun b o => sortedAll_old) hn hHn ?_, rfl, q.lst hl hHn hr⟩
        refine ⟨?_, out, e, hv, hat⟩
        rw [List.length_map, isort_len, hzl]; exact h4
    · cases hs
  · cases hs
end
end Ev
end

section
set_option maxHeartbeats 0
namespace Ev
open PySem PySem.Spec PyProof.Rows L2

section
variable {M : Mx} {X : Cx}
theorem nv_blt {b : Bl} {ds : List D} {c : Cell} (h : bltD b ds = some c) : nv c := by
  unfold bltD at h
  split at h
  all_goals first
    | (cases h; trivial)
    | (split at h <;> first | (cases h; trivial) | (obtain ⟨t, _, rfl⟩ := Option.map_eq_some_iff.mp h; trivial) | cases h)
    | cases h
    | (obtain ⟨t, _, rfl⟩ := Option.map_eq_some_iff.mp h; trivial)
theorem each_sql {F H : Hp} {d : D} {vs : List V} {l : List D} (h : Views M F H [.lst l] vs) (hl : le F H) : ∃ a ws, vs = [.ref a] ∧ SqL M.K H a ws ∧ RepsF M F l ws := by
  obtain ⟨v, rfl, hv⟩ := h.one
  obtain ⟨a, ws, rfl, q, r⟩ := hv.sql hl
  exact ⟨a, ws, rfl, q, r⟩
theorem vals_of_get : ∀ {xs : List V} {us : List Value}, xs.length = us.length → (∀ (i : Nat) (u : Value), us[i]? = some u → ∃ x, xs[i]? = some x ∧ RelV x u) → Vals xs us
  | [], [], _, _ => .nil
  | x :: xs, u :: us, h, k => by
    obtain ⟨y, e, r⟩ := k 0 u rfl
    cases e
    exact .cons r (vals_of_get (by simpa using h) fun i w hw => by
      obtain ⟨z, h1, h2⟩ := k (i + 1) w (by simpa using hw)
      exact ⟨z, by simpa using h1, h2⟩)
  | [], _ :: _, h, _ => by simp at h
  | _ :: _, [], h, _ => by simp at h
theorem reps_signs {F : Hp} : ∀ l : List Nat, RepsF M F (l.map fun c => .str ⟨#[c]⟩) (l.map fun c => V.str ⟨#[c]⟩)
  | [] => rfl
  | c :: l => ⟨_, _, rfl, rfl, reps_signs l⟩
theorem tuple_str (hc : X.calm = true) {pins : List (Addr × Obj)} {s : Shared} {σ : L2.St} {F H : Hp} {x : Str} {us : List Value} {Q : VK} (I : Inv X pins σ H s) (hl : le F H) (rv : Vals [V.str x] us) (hz : x.length ≤ sizeLine)
    (q : New M F H (.fz (.tup (x.cps.toList.map fun c => .str ⟨#[c]⟩))) Q) : wpAny (model X.prog X.w) X.A (call (.type "tuple") us) (EP X pins σ Q) X.xe s := by
  obtain ⟨u, rfl, ru⟩ := vals1 rv
  obtain ⟨t, rfl⟩ := ru
  refine call_tuple_str (hsz := hz) (I.ok.hd hc) x t fun h' tk acc kp hacc => ?_
  have I1 : Inv X pins σ H { s with heap := h', toks := tk } := I.kept (t' := tk) kp
  have hv : Vals (x.cps.toList.map fun c => V.str ⟨#[c]⟩) acc.toList := vals_of_get (by simp [hacc.1]) fun i w hw => by
    obtain ⟨c, k, h1, rfl⟩ := hacc.2 i w (by simpa using hw)
    exact ⟨.str ⟨#[c]⟩, by simp [h1], k, rfl⟩
  have I2 : Inv X pins σ (L2.upd H h'.objs.size (.tup (x.cps.toList.map fun c => V.str ⟨#[c]⟩))) { s with heap := h'.push { cls := .type "tuple", data := .seq acc }, toks := tk } :=
    I1.laid (t' := tk) (fun b o e => Heap.get?_push_of_some _ e) (Nat.le_refl _) (show ObjOk X.prog X.w _ _ _ (.tup _) from ⟨by rw [List.length_map]; exact hz, acc.toList, hv, by rw [show acc = acc.toList.toArray by simp]; exact IsTup.new _ _⟩)
  exact ⟨.ref h'.objs.size, _, I2, rfl, q.tup hl (I1.hok.fresh (Nat.le_refl _)) (reps_signs _)⟩
theorem blt_ok (hc : X.calm = true) (hK : M.K = X.K) (hu : X.A.units + 80 < cLine) (b : Bl) : ∀ u, blV b = some u → CallR X u (rBlt M b) := by
  intro u hu' pins s σ H xs us Q I rv h
  obtain ⟨F, ds, c, hl, hv, hb, q⟩ := h
  unfold bltD at hb
  split at hb
  · split at hb
    · cases hu'; cases hb
      obtain ⟨v, rfl, hw⟩ := hv.one
      have := hw.str; subst v
      exact call_len pins s σ H _ us Q I rv ⟨_, _, rfl, ⟨by assumption, rfl⟩, q.fz hl rfl⟩
    · cases hb
  · cases hu'; cases hb
    obtain ⟨v, rfl, hw⟩ := hv.one
    obtain ⟨a, ws, rfl, k, r⟩ := hw.sql hl
    rw [hK] at k
    exact call_len pins s σ H _ us Q I rv ⟨_, _, rfl, .inl ⟨_, k, rfl⟩, q.fz hl (by rw [← r.len]; rfl)⟩
  · cases hu'; cases hb
    obtain ⟨v, rfl, hw⟩ := hv.one
    obtain ⟨a, ws, rfl, k, r⟩ := hw.sqt hl
    rw [hK] at k
    exact call_len pins s σ H _ us Q I rv ⟨_, _, rfl, .inr ⟨_, k, rfl⟩, q.fz hl (by rw [← r.len]; rfl)⟩
  · cases hu'; cases hb
    obtain ⟨v, rfl, hw⟩ := hv.one
    have := hw.int; subst v
    exact call_abs pins s σ H _ us Q I rv ⟨_, rfl, q.fz hl rfl⟩
  · cases hu'; cases hb
    obtain ⟨v, rfl, hw⟩ := hv.one
    have := hw.int; subst v
    exact call_int1 pins s σ H _ us Q I rv (.inl ⟨_, rfl, q.fz hl rfl⟩)
  · cases hu'; cases hb
    obtain ⟨v, rfl, hw⟩ := hv.one
    have := hw.bl; subst v
    exact call_int1 pins s σ H _ us Q I rv (.inr ⟨_, rfl, q.fz hl rfl⟩)
  · split at hb
    · cases hu'
      obtain ⟨n, hn, rfl⟩ := Option.map_eq_some_iff.mp hb
      obtain ⟨v, rfl, hw⟩ := hv.one
      have := hw.str; subst v
      exact call_int_str pins s σ H _ us Q I rv ⟨_, _, rfl, hn, by assumption, q.fz hl rfl⟩
    · cases hb
  · split at hb
    · cases hu'; cases hb
      obtain ⟨v, rfl, hw⟩ := hv.one
      have := hw.int; subst v
      exact call_str_int pins s σ H _ us Q I rv ⟨_, rfl, by assumption, q.fz hl rfl⟩
    · cases hb
  · cases hu'; cases hb
    obtain ⟨v, w, rfl, h1, h2⟩ := hv.two
    have := h1.int; have := h2.int; subst v w
    exact call_max2 hc pins s σ H _ us Q I rv ⟨_, _, rfl, q.fz hl rfl⟩
  · cases hu'; cases hb
    obtain ⟨v, w, rfl, h1, h2⟩ := hv.two
    have := h1.int; have := h2.int; subst v w
    exact call_min2 hc pins s σ H _ us Q I rv ⟨_, _, rfl, q.fz hl rfl⟩
  · split at hb
    · rename_i i r hi
      cases hu'; cases hb
      obtain ⟨v, rfl, hw⟩ := hv.one
      obtain ⟨a, ws, rfl, k, r'⟩ := hw.sql hl
      rw [hK] at k
      rw [r'.ints hi] at k
      refine cr_max hc pins s σ H _ us Q I rv ⟨a, _, rfl, k, by simp, fun m hm hle => ?_⟩
      obtain ⟨h1, h2, h3⟩ := maxI_ge r i
      have e : m = maxI i r := by
        have a1 : maxI i r ≤ m := by
          rcases h3 with h3 | h3
          · exact hle _ (by simp [h3])
          · exact hle _ (by simp [h3])
        have a2 : m ≤ maxI i r := by
          rcases List.mem_cons.mp hm with rfl | hm
          · exact h1
          · exact h2 _ hm
        omega
      rw [e]
      exact q.fz hl rfl
    · cases hb
  · split at hb
    · rename_i i r hi
      cases hu'; cases hb
      obtain ⟨v, rfl, hw⟩ := hv.one
      obtain ⟨a, ws, rfl, k, r'⟩ := hw.sql hl
      rw [hK] at k
      rw [r'.ints hi] at k
      refine cr_min hc pins s σ H _ us Q I rv ⟨a, _, rfl, k, by simp, fun m hm hle => ?_⟩
      obtain ⟨h1, h2, h3⟩ := minI_le r i
      have e : m = minI i r := by
        have a1 : m ≤ minI i r := by
          rcases h3 with h3 | h3
          · exact hle _ (by simp [h3])
          · exact hle _ (by simp [h3])
        have a2 : minI i r ≤ m := by
          rcases List.mem_cons.mp hm with rfl | hm
          · exact h1
          · exact h2 _ hm
        omega
      rw [e]
      exact q.fz hl rfl
    · cases hb
  · cases hu'
    obtain ⟨n, hn, rfl⟩ := Option.map_eq_some_iff.mp hb
    obtain ⟨v, rfl, hw⟩ := hv.one
    obtain ⟨a, ws, rfl, k, r'⟩ := hw.sql hl
    rw [hK, r'.ints hn] at k
    exact cr_sum hc pins s σ H _ us Q I rv ⟨a, _, rfl, k, q.fz hl rfl⟩
  · cases hu'
    obtain ⟨n, hn, rfl⟩ := Option.map_eq_some_iff.mp hb
    obtain ⟨v, rfl, hw⟩ := hv.one
    obtain ⟨a, ws, rfl, k, r'⟩ := hw.sql hl
    rw [hK, r'.bools hn] at k
    exact cr_all hc pins s σ H _ us Q I rv ⟨a, _, rfl, k, q.fz hl rfl⟩
  · cases hu'
    obtain ⟨n, hn, rfl⟩ := Option.map_eq_some_iff.mp hb
    obtain ⟨v, rfl, hw⟩ := hv.one
    obtain ⟨a, ws, rfl, k, r'⟩ := hw.sql hl
    rw [hK, r'.bools hn] at k
    exact cr_any hc pins s σ H _ us Q I rv ⟨a, _, rfl, k, q.fz hl rfl⟩
  · cases hu'
    obtain ⟨n, hn, rfl⟩ := Option.map_eq_some_iff.mp hb
    obtain ⟨v, rfl, hw⟩ := hv.one
    obtain ⟨a, ws, rfl, k, r'⟩ := hw.sql hl
    rw [hK] at k
    rw [Vals.ref1 rv]
    exact sort_ok hK hu I hl k r' hn q
  · cases hu'; cases hb
    obtain ⟨v, rfl, hw⟩ := hv.one
    obtain ⟨a, ws, rfl, k, r'⟩ := hw.sql hl
    rw [hK] at k
    exact call_tuple_of pins s σ H _ us Q I rv ⟨a, ws, rfl, .inl ⟨k, fun p hp => q.tup hl hp r'⟩⟩
  · cases hu'; cases hb
    obtain ⟨v, rfl, hw⟩ := hv.one
    have hf := hw.frz rfl
    obtain ⟨a, ws, rfl, k, r'⟩ := hw.sqt hl
    rw [hK] at k
    exact call_tuple_of pins s σ H _ us Q I rv ⟨a, ws, rfl, .inr ⟨k, q.fz hl hf⟩⟩
  · split at hb
    · rename_i hz
      cases hu'; cases hb
      obtain ⟨v, rfl, hw⟩ := hv.one
      have := hw.str; subst v
      exact tuple_str hc I hl rv hz q
    · cases hb
  · cases hu'; cases hb
    obtain ⟨v, rfl, hw⟩ := hv.one
    obtain ⟨a, ws, rfl, k, r'⟩ := hw.sql hl
    rw [hK] at k
    exact call_list_of pins s σ H _ us Q I rv ⟨a, ws, rfl, .inl k, fun p hp => q.lst hl hp r'⟩
  · cases hu'; cases hb
    obtain ⟨v, rfl, hw⟩ := hv.one
    obtain ⟨a, ws, rfl, k, r'⟩ := hw.sqt hl
    rw [hK] at k
    exact call_list_of pins s σ H _ us Q I rv ⟨a, ws, rfl, .inr k, fun p hp => q.lst hl hp r'⟩
  · cases hb
end
section
variable {g : G} {cl : Nat → List Cell → Option (R Cell)} {M : Mx} {W : L2.WX} {X : Cx}
/-- arguments handed to an operation -/
theorem ops_list {ms : Es} {σ : L2.St} {H : Hp} {Q : VK} {f : List D → Option Cell} {r : List V → Hp → VK → Prop} {ρ : Rho} {F : Hp} (R : Rl M ρ σ F H)
    (p : Post M W σ (sta ρ σ F H) (PC M σ) Q (bnd (evO g cl ms ρ) fun os ρ => apL (odsD ρ os) f ρ))
    (hn : ∀ d c, f d = some c → nv c)
    (hr : ∀ vs H2 F2 ds c, le F2 H2 → Views M F2 H2 ds vs → f ds = some c → New M F2 H2 c Q → r vs H2 Q) :
    tOs g cl M W ms σ H (fun vs H1 => r vs H1 Q) := by
  refine ⟨ρ, F, R, Post.bnd p bk_PC fun os ρ1 vs F1 H1 e1 R1 s1 p1 p => ?_⟩
  unfold apL at p
  split at p
  · rename_i ds hd
    obtain ⟨c, hc, p⟩ := p.map
    exact hr vs H1 F1 ds c R1.le (Pds.views R1 p1 hd) hc (p.new R1 (hn ds c hc))
  · exact p.elim
theorem se_blt (hc : X.calm = true) (hK : M.K = X.K) (hu : X.A.units + 80 < cLine) {b : Bl} {u : Value} {e : Expr} {es : List Expr} {ms : Es} {p pos : Pos} (hb : blV b = some u) (hg : Gl X (blN b)) (hm : X.mg (blN b) = none) (hn : nst e = true)
    (hpl : (backTo pos (starEach es X.env)).any (·.1) = false) (ha : PA X (e :: es) (tOs g cl M W ms)) : PE X (.Call (.Name (blN b) p) (e :: es) [] pos) (tE g cl M W (.blt b ms)) := by
  have hv := blV_boot b u hb
  have hr := blt_ok (M := M) hc hK hu b u hb
  have hn' : blN b ≠ "__name__" := by cases b <;> decide
  have hd : (blN b == ("__debug__" : Str)) = false := by cases b <;> decide
  have h : PE X (.Call (.Name (blN b) p) (e :: es) [] pos) (tCB (rBlt M b) (tOs g cl M W ms)) := by
    have hk : (∃ i, u = .builtin i) ∨ ∃ T, u = .type T := by cases b <;> simp [blV] at hb <;> subst hb <;> simp
    rcases hk with ⟨i, rfl⟩ | ⟨T, rfl⟩
    · exact pe_callB hr hg hm hv ha hn' hd (star_of hn) hpl
    · exact pe_callTy hr hg hm hv ha hn' hd (star_of hn) hpl
  refine pe_imp h fun σ H Q ⟨ρ, F, R, p⟩ => ?_
  simp only [evE] at p
  exact ops_list (r := rBlt M b) R p (fun _ _ => nv_blt) fun vs H2 F2 ds c h1 h2 h3 h4 => ⟨F2, ds, c, h1, h2, h3, h4⟩

def tyV : Ty → Option String
  | .int => some "int" | .bool => some "bool" | .str => some "str" | .list => some "list" | .tuple => some "tuple" | .own _ => none
def tyN : Ty → Str
  | .int => "int" | .bool => "bool" | .str => "str" | .list => "list" | .tuple => "tuple" | .own _ => ""
def dTy : D → String
  | .non => "NoneType" | .bl _ => "bool" | .int _ => "int" | .str _ => "str" | .lst _ => "list" | .tup _ => "tuple" | _ => ""
theorem ty_boot : ∀ (t : Ty) (n : String), tyV t = some n → bootBuiltins (tyN t) = some (.type n)
  | .int, _, h => by cases h; decide +kernel
  | .bool, _, h => by cases h; decide +kernel
  | .str, _, h => by cases h; decide +kernel
  | .list, _, h => by cases h; decide +kernel
  | .tuple, _, h => by cases h; decide +kernel
  | .own _, _, h => by cases h
theorem View.tyx {F H : Hp} {d : D} {v : V} (h : View M F H d v) (hl : Ev.le F H) (hp : plain d = true) : TyX M.K H v (.type (dTy d)) := by
  cases d with
  | non => rw [h.non]; exact .base .non
  | bl b => rw [h.bl]; exact .base (.bl _)
  | int b => rw [h.int]; exact .base (.int _)
  | str b => rw [h.str]; exact .base (.str _)
  | tup ds =>
    obtain ⟨a, ws, rfl, k, r⟩ := h.sqt hl
    rcases k with (k | ⟨o, k⟩) | ⟨o, its, n, k, c, _⟩
    · exact .base (.tup k)
    · exact .fTuple k
    · exact .kTuple k c
  | lst ds =>
    obtain ⟨a, ws, rfl, k, r⟩ := h.sql hl
    rcases k with (k | ⟨o, k⟩) | ⟨o, its, n, k, c, _⟩
    · exact .base (.lst k)
    · exact .base (.frz k)
    · exact .kList k c
  | dic _ => cases hp
  | ins _ _ => cases hp
  | exc _ _ => cases hp
  | fn _ => cases hp
theorem kit_is : ∀ (d : D) (t : Ty) (n : String), plain d = true → tyV t = some n → kitB (dTy d) n = some (isTy d t) := by
  intro d t n hp ht
  cases d with
  | non => cases t <;> cases ht <;> decide +kernel
  | bl b => cases t <;> cases ht <;> simp only [dTy, isTy] <;> decide +kernel
  | int b => cases t <;> cases ht <;> simp only [dTy, isTy] <;> decide +kernel
  | str b => cases t <;> cases ht <;> simp only [dTy, isTy] <;> decide +kernel
  | tup ds => cases t <;> cases ht <;> simp only [dTy, isTy] <;> decide +kernel
  | lst ds => cases t <;> cases ht <;> simp only [dTy, isTy] <;> decide +kernel
  | dic _ => cases hp
  | ins _ _ => cases hp
  | exc _ _ => cases hp
  | fn _ => cases hp
theorem kit_any {K : PySem.W.Frag} (d : D) (hp : plain d = true) : ∀ (ts : List Ty) (ns : List String), ts.map tyV = ns.map some → PySem.W.kitAny K (.type (dTy d)) (ns.map .type) = some (ts.any (isTy d))
  | [], [], _ => rfl
  | [], _ :: _, h => by cases h
  | _ :: _, [], h => by cases h
  | t :: ts, n :: ns, h => by
    simp only [List.map_cons, List.cons.injEq] at h
    refine kitAny_cons (b := isTy d t) (kit_ty (kit_is d t n hp h.1)) (fun e => ?_) fun e => ?_
    · rw [kit_any d hp ts ns h.2, List.any_cons, e, Bool.false_or]
    · rw [List.any_cons, e, Bool.true_or]
/-- a class by its name -/
structure TyName (X : Cx) (t : Ty) (n : String) : Prop where
  v : tyV t = some n
  g : Gl X (tyN t)
  m : X.mg (tyN t) = none
theorem TyName.pe {t : Ty} {n : String} {pos : Pos} (h : TyName X t n) : PE X (.Name (tyN t) pos) (tC (.ty n)) :=
  pe_bltn h.g h.m (ty_boot t n h.v) rfl (by have := h.v; cases t <;> first | decide | cases this) (by have := h.v; cases t <;> first | decide | cases this)
theorem nv_isi {ts : List Ty} {d : D} {c : Cell} (h : isiD ts d = some c) : nv c := by
  unfold isiD at h
  split at h
  · cases h; trivial
  · cases h
theorem isi_plain {ts : List Ty} {d : D} {c : Cell} (h : isiD ts d = some c) : plain d = true ∧ c = .fz (.bl (ts.any (isTy d))) := by
  unfold isiD at h
  split at h
  · cases h; exact ⟨by assumption, rfl⟩
  · cases h
theorem se_isi1 (hK : M.K = X.K) {e : Expr} {m : Ex} {t : Ty} {n : String} {b : Bool} {p p2 pos : Pos} (hg : Gl X "isinstance") (hm : X.mg "isinstance" = none) (hn : nst e = true) (ht : TyName X t n)
    (hpl : (backTo pos (starEach [.Name (tyN t) p2] X.env)).any (·.1) = false) (he : PE X e (tO g cl M W m)) : PE X (.Call (.Name "isinstance" p) [e, .Name (tyN t) p2] [] pos) (tE g cl M W (.isi m [t] b)) := by
  refine pe_imp (pe_callB call_isi hg hm boot_isinstance (pa_cons he (pa_cons ht.pe pa_nil (star_of rfl)) (star_of hn)) (he := star_of hn) (hpl := hpl)) fun σ H Q ⟨ρ, F, R, p⟩ => ?_
  simp only [evE] at p
  refine one_op (r := fun x H1 Q => rIsi X.K [x, .ty n] H1 Q) R p (fun _ _ => nv_isi) fun x H2 F2 d c h1 h2 h3 h4 => ?_
  obtain ⟨hp, rfl⟩ := isi_plain h3
  have hk := kit_is d t n hp ht.v
  refine ⟨x, _, _, _, isTy d t, rfl, .ty n, by rw [← hK]; exact h2.tyx h1 hp, kit_ty hk, ?_⟩
  have := h4.fz h1 (v := .bl ([t].any (isTy d))) rfl
  simpa using this
theorem pa_tys : ∀ {ts : List Ty} {ns : List String} {es : List Expr}, Paired (TyName X) ts ns → Paired (fun t e => ∃ pos, e = Expr.Name (tyN t) pos) ts es → PA X es (fun _ H Q => Q (ns.map .ty) H)
  | [], _, _, .nil, .nil => pa_nil
  | t :: ts, _, _, .cons h hs, .cons ⟨pos, e⟩ r => by
    subst e
    exact pa_imp (pa_cons h.pe (pa_tys hs r) (star_of rfl)) fun σ H Q q => q
theorem tys_map : ∀ {ts : List Ty} {ns : List String}, Paired (TyName X) ts ns → ts.map tyV = ns.map some
  | _, _, .nil => rfl
  | _, _, .cons h hs => by rw [List.map_cons, List.map_cons, tys_map hs, h.v]
theorem clsV_tys : ∀ ns : List String, Paired ClsV (ns.map V.ty) (ns.map Value.type)
  | [] => .nil
  | n :: ns => .cons (.ty n) (clsV_tys ns)
theorem se_isiT (hK : M.K = X.K) {e : Expr} {m : Ex} {ts : List Ty} {ns : List String} {es : List Expr} {b : Bool} {k : Nat} {p p2 pos : Pos} (hg : Gl X "isinstance") (hm : X.mg "isinstance" = none) (hn : nst e = true)
    (ht : Paired (TyName X) ts ns) (hes : Paired (fun t e => ∃ pos, e = Expr.Name (tyN t) pos) ts es) (hz : ts.length ≤ sizeLine)
    (hpl : (backTo pos (starEach [.Tuple es k p2] X.env)).any (·.1) = false) (he : PE X e (tO g cl M W m)) : PE X (.Call (.Name "isinstance" p) [e, .Tuple es k p2] [] pos) (tE g cl M W (.isi m ts b)) := by
  refine pe_imp (pe_callB call_isiT hg hm boot_isinstance (pa_cons he (pa_cons (pe_tup (pa_tys ht hes)) pa_nil (star_of rfl)) (star_of hn)) (he := star_of hn) (hpl := hpl)) fun σ H Q ⟨ρ, F, R, p⟩ => ?_
  simp only [evE] at p
  refine one_op (r := fun x H1 Q => (ns.map V.ty).length ≤ sizeLine ∧ ∀ l, H1 l = none → rIsiT X.K [x, .ref l] (L2.upd H1 l (.tup (ns.map .ty))) Q) R p (fun _ _ => nv_isi) fun x H2 F2 d c h1 h2 h3 h4 => ?_
  obtain ⟨hp, rfl⟩ := isi_plain h3
  have hlen : ts.length = ns.length := Paired.length ht
  have hmap : ts.map tyV = ns.map some := tys_map ht
  refine ⟨by rw [List.length_map]; omega, fun l hL => ?_⟩
  have hF := le.none h1 hL
  have hle := le.updR (o := .tup (ns.map V.ty)) h1 hF
  have hv : View M F2 (L2.upd H2 l (.tup (ns.map .ty))) d x := View.le h2 (le.refl F2) fun a o e2 n e => ⟨n, le.upd hL _ _ e⟩
  refine ⟨x, l, _, _, ns.map .type, _, rfl, upd_same, ?_, by rw [← hK]; exact hv.tyx hle hp, kit_any d hp ts ns hmap, ?_⟩
  · exact clsV_tys ns
  · exact h4 _ F2 _ (le.refl F2) (le.upd hL) hle (fun _ _ => rfl) rfl fun a h => absurd h.1 (by simp [isOwn])
end
end Ev
end

section
set_option maxHeartbeats 0
namespace Ev
open PySem PySem.Spec PyProof.Rows L2

section
variable {M : Mx} {ρ : Rho} {σ : L2.St} {F H : Hp}
/-- what is one's own gets other items -/
theorem Rl.putC (R : Rl M ρ σ F H) {i : Nat} {c0 c1 : Cell} {a : Addr} {o1 : HO} (e : ρ[i]? = some (some c0)) (h0 : isOwn c0 = true) (ev : σ[i]? = some (some (.ref a))) (h1 : isOwn c1 = true) (r' : Hold M F c1.d o1) :
    Rl M (ρ.set i (some c1)) σ F (L2.upd H a o1) ∧ Stp (Fo ρ σ) F H (Fo (ρ.set i (some c1)) σ) F (L2.upd H a o1) := by
  obtain ⟨v, ev', r0⟩ := R.cell i _ e
  obtain ⟨a', o, e1, n, q, r⟩ := r0.own h0
  rw [ev] at ev'; cases ev'; cases e1
  have hi : i < ρ.length := (List.getElem?_eq_some_iff.mp e).1
  have own : Ow ρ σ a := ⟨i, _, e, h0, ev⟩
  have sub : ∀ b, Ow (ρ.set i (some c1)) σ b → Ow ρ σ b := fun b ⟨j, c, e1, e2, e3⟩ => by
    by_cases hj : j = i
    · subst hj
      rw [ev] at e3; cases e3
      exact own
    · rw [List.getElem?_set_ne (Ne.symm hj)] at e1
      exact ⟨j, c, e1, e2, e3⟩
  have old : ∀ {j : Nat} {c : Cell}, (ρ.set i (some c1))[j]? = some (some c) → j ≠ i → ρ[j]? = some (some c) := fun {j c} e1 hj => by
    rw [List.getElem?_set_ne (Ne.symm hj)] at e1; exact e1
  have ownOf : ∀ {j : Nat} {c : Cell}, (ρ.set i (some c1))[j]? = some (some c) → isOwn c = true → ∃ c0, ρ[j]? = some (some c0) ∧ isOwn c0 = true := fun {j c} e1 o => by
    by_cases hj : j = i
    · subst hj; exact ⟨_, e, h0⟩
    · exact ⟨c, old e1 hj, o⟩
  refine ⟨⟨by rw [List.length_set]; exact R.len, Ev.le.updR R.le n, fun j c e1 => ?_, fun j k cj ck b e1 e2 o1 o2 s1 s2 => ?_, fun j d b e1 s1 z => ?_⟩, ⟨Ev.le.refl F, fun b o e1 n1 => ⟨?_, fun n2 => n2⟩, fun b z => ?_, fun b z => .inl (sub b z), fun j z => ?_⟩⟩
  · by_cases hj : j = i
    · subst hj
      rw [List.getElem?_set_self hi] at e1
      cases e1
      exact ⟨_, ev, RepC.of_own h1 ⟨a, _, rfl, n, upd_same, r'⟩⟩
    · have e1 := old e1 hj
      obtain ⟨v, ev2, r2⟩ := R.cell j c e1
      refine ⟨v, ev2, ?_⟩
      have own2 : isOwn c = true → RepO M F (L2.upd H a o1) c.d v := fun oc => by
        obtain ⟨b, o2, e2, n2, q2, r3⟩ := r2.own oc
        refine ⟨b, o2, e2, n2, ?_, r3⟩
        rw [upd_ne fun z => ?_]
        · exact q2
        · subst z
          subst e2
          exact hj (R.dis j i _ _ b e1 e oc h0 ev2 ev)
      cases c with
      | fz d => exact r2
      | vw d =>
        obtain ⟨b, o2, e2, q2, r3, n2⟩ := r2
        have hb : b ≠ a := fun z => by
          subst z
          exact R.vw j d b e1 (by rw [ev2, e2]) own
        exact ⟨b, o2, e2, by rw [upd_ne hb]; exact q2, r3, n2⟩
      | lst dd => exact own2 rfl
      | dic ks dd => exact own2 rfl
  · obtain ⟨d1, f1, g1⟩ := ownOf e1 o1
    obtain ⟨d2, f2, g2⟩ := ownOf e2 o2
    exact R.dis j k d1 d2 b f1 f2 g1 g2 s1 s2
  · by_cases hj : j = i
    · subst hj; rw [List.getElem?_set_self hi] at e1; cases e1; cases h1
    · exact R.vw j d b (old e1 hj) s1 (sub b z)
  · rw [upd_ne fun z => ?_]
    · exact e1
    · exact n1 (z ▸ own)
  · by_cases hb : b = a
    · rw [hb, upd_same]; simp
    · rw [upd_ne hb]; exact z
  · obtain ⟨d, e1⟩ := z
    by_cases hj : j = i
    · subst hj; rw [List.getElem?_set_self hi] at e1; cases e1; cases h1
    · exact ⟨d, old e1 hj⟩
/-- an own list gets other items -/
theorem Rl.put (R : Rl M ρ σ F H) {i : Nat} {ds ds' : List D} {a : Addr} {vs' : List V} (e : ρ[i]? = some (some (.lst ds))) (ev : σ[i]? = some (some (.ref a))) (r' : RepsF M F ds' vs') :
    Rl M (ρ.set i (some (.lst ds'))) σ F (L2.upd H a (.lst vs')) ∧ Stp (Fo ρ σ) F H (Fo (ρ.set i (some (.lst ds'))) σ) F (L2.upd H a (.lst vs')) := R.putC e rfl ev rfl ⟨vs', rfl, r'⟩
end

section
variable {g : G} {cl : Nat → List Cell → Option (R Cell)} {M : Mx} {W : L2.WX} {X : Cx}
def rBm (M : Mx) (m : Bm) : V → List V → Hp → VK → Prop := fun x vs H Q => ∃ F d ds c, le F H ∧ View M F H d x ∧ Views M F H ds vs ∧ bmD m d ds = some c ∧ New M F H c Q
theorem nv_bm {m : Bm} {d : D} {ds : List D} {c : Cell} (h : bmD m d ds = some c) : nv c := by
  unfold bmD at h
  split at h
  · split at h
    · split at h
      · split at h <;> first | (cases h; trivial) | cases h
      · cases h
    · cases h
  · split at h <;> first | (cases h; trivial) | cases h
  · cases h
theorem recv_str {m : Bm} {d : D} (hm : m = .join ∨ m = .split) (h : recv m d = true) : ∃ x, d = .str x := by
  rcases hm with rfl | rfl <;> (cases d <;> simp [recv] at h; exact ⟨_, rfl⟩)
/-- a text's method with one argument -/
theorem bm_core {m : Bm} {a e : Ex} {b : Bool} {σ : L2.St} {H : Hp} {Q : VK} {r : V → List V → Hp → VK → Prop} {ρ : Rho} {F : Hp} (hm : m = .join ∨ m = .split) (R : Rl M ρ σ F H)
    (p : Post M W σ (sta ρ σ F H) (PC M σ) Q (evE g cl (.bm m a (.cons b e .nil)) ρ))
    (hr : ∀ x y H2 F2 d ds c, le F2 H2 → View M F2 H2 d x → Views M F2 H2 ds [y] → bmD m d ds = some c → New M F2 H2 c Q → r x [y] H2 Q) :
    tM1 r (tO g cl M W a) (tO g cl M W e) σ H Q := by
  simp only [evE] at p
  refine ⟨ρ, F, R, Post.bnd p bk_PC fun o1 ρ1 x F1 H1 e1 R1 s1 p1 p => ?_⟩
  split at p
  · rename_i hrec
    obtain ⟨d, hd, hrec⟩ := Option.any_eq_true _ _ |>.mp hrec
    obtain ⟨z, rfl⟩ := recv_str hm hrec
    have hx := (p1.view R1 hd).str
    refine ⟨⟨z, hx⟩, ρ1, F1, R1, ?_⟩
    simp only [evO] at p
    rw [bnd_assoc] at p
    refine Post.bnd p bk_PC fun o2 ρ2 y F2 H2 e2 R2 s2 p2 p => ?_
    unfold ap1 at p
    simp only [bnd, odsD] at p
    split at p
    · rename_i d' hd'
      obtain ⟨c, hc, p⟩ := p.map
      cases hy : o2.d ρ2 with
      | none => simp [hy] at hc
      | some e' =>
        rw [hy] at hc
        exact hr x y H2 F2 d' [e'] c R2.le ((p1.stp R1 s2).view R2 hd') (.cons (p2.view R2 hy) .nil) hc (p.new R2 (nv_bm hc))
    · exact p.elim
  · exact p.elim
theorem se_split (hK : M.K = X.K) {o e : Expr} {a m : Ex} {b : Bool} {apos pos : Pos} (ho : PE X o (tO g cl M W a)) (he : PE X e (tO g cl M W m)) (hn : nst e = true) (hbase : attributeBase o "split" X.env (eval o X.env) = eval o X.env)
    (hline : (apos.endLine == pos.line) = true) : PE X (.Call (.Attribute o "split" apos) [e] [] pos) (tE g cl M W (.bm .split a (.cons b m .nil))) := by
  refine pe_imp (pe_split ho he (star_of hn) hbase hline) fun σ H Q ⟨ρ, F, R, p⟩ => bm_core (.inr rfl) R p fun x y H2 F2 d ds c h1 h2 h3 h4 h5 => ?_
  unfold bmD at h4
  split at h4
  · rename_i k _ _ _ _ z
    cases z
  · rename_i k x' y' z
    split at h4
    · rename_i hz
      cases h4
      have := h2.str; subst this
      obtain ⟨v, e1, hv⟩ := Views.one h3
      cases e1
      have := hv.str; subst this
      refine ⟨_, _, rfl, rfl, hz.1, hz.2, fun p hp => ?_⟩
      exact h5.lst h1 hp (RepsF.ofStrs _)
    · cases h4
  · cases h4
theorem se_join (hK : M.K = X.K) {o e : Expr} {a m : Ex} {b : Bool} {apos pos : Pos} (ho : PE X o (tO g cl M W a)) (he : PE X e (tO g cl M W m)) (hn : nst e = true) (hbase : attributeBase o "join" X.env (eval o X.env) = eval o X.env)
    (hline : (apos.endLine == pos.line) = true) : PE X (.Call (.Attribute o "join" apos) [e] [] pos) (tE g cl M W (.bm .join a (.cons b m .nil))) := by
  refine pe_imp (pe_join ho he (star_of hn) hbase hline) fun σ H Q ⟨ρ, F, R, p⟩ => bm_core (.inl rfl) R p fun x y H2 F2 d ds c h1 h2 h3 h4 h5 => ?_
  unfold bmD at h4
  split at h4
  · rename_i k x' l' z
    split at h4
    · rename_i l hl
      split at h4
      · rename_i ys hys
        split at h4
        · rename_i hz
          cases h4
          have := h2.str; subst this
          obtain ⟨v, e1, hv⟩ := Views.one h3
          cases e1
          rw [Nat.mul_comm] at hz
          unfold seqOf at hl
          split at hl
          · cases hl
            obtain ⟨q, vs, rfl, k1, r⟩ := hv.sql h1
            rw [hK, r.strs hys] at k1
            exact ⟨_, q, ys, rfl, rfl, .inl k1, hz, h5.fz h1 rfl⟩
          · cases hl
            obtain ⟨q, vs, rfl, k1, r⟩ := hv.sqt h1
            rw [hK, r.strs hys] at k1
            exact ⟨_, q, ys, rfl, rfl, .inr k1, hz, h5.fz h1 rfl⟩
          · cases hl
        · cases h4
      · cases h4
    · cases h4
  · rename_i k _ _ z
    cases z
  · cases h4

theorem isLst_some {ρ : Rho} {i : Nat} (h : isLst ρ i = true) : ∃ l, ρ[i]? = some (some (.lst l)) := by
  unfold isLst at h
  split at h
  · exact ⟨_, by assumption⟩
  · cases h
theorem Rl.own {ρ : Rho} {σ : L2.St} {F H : Hp} (R : Rl M ρ σ F H) {i : Nat} {l : List D} (h : ρ[i]? = some (some (.lst l))) : ∃ a vs, σ[i]? = some (some (.ref a)) ∧ H a = some (.lst vs) ∧ RepsF M F l vs := by
  obtain ⟨v, ev, a, o, rfl, n, q, vs, rfl, r⟩ := R.cell i _ h
  exact ⟨a, vs, ev, q, r⟩
theorem Rl.tyL {ρ : Rho} {σ : L2.St} {F H : Hp} {K : PySem.W.Frag} (R : Rl M ρ σ F H) {i : Nat} (h : isLst ρ i = true) {v : V} (ev : σ[i]? = some (some v)) : L2.tyV K "list" v H := by
  obtain ⟨l, hl⟩ := isLst_some h
  obtain ⟨a, vs, e, q, _⟩ := R.own hl
  rw [ev] at e; cases e
  exact .inl ⟨rfl, vs, SqL.of q⟩
theorem RepsF.dropLast {F : Hp} {ds : List D} {vs : List V} (r : RepsF M F ds vs) : RepsF M F ds.dropLast vs.dropLast := by
  rw [List.dropLast_eq_take, List.dropLast_eq_take, ← r.len]
  exact r.take _
theorem se_pop0 {i : Nat} {e : Expr} {apos pos : Pos} (he : PE X e (tVar i)) (hbase : attributeBase e "pop" X.env (eval e X.env) = eval e X.env) (hline : (apos.endLine == pos.line) = true) :
    PE X (.Call (.Attribute e "pop" apos) [] [] pos) (tE g cl M W (.pop i .nil)) := by
  refine pe_imp (pe_bm0 F.plainAttrs_list F.slot_list_pop F.type_list_pop (fun pins s σ H x xs v us Q I rx rv h => mt_pop pins s σ H x xs v us Q I rx rv h) he hbase hline) fun σ H Q ⟨ρ, F, R, p⟩ => ?_
  simp only [evE] at p
  split at p
  · exact p.elim
  · rename_i hi
    have hi : isLst ρ i = true := by simpa using hi
    obtain ⟨l0, hl0⟩ := isLst_some hi
    obtain ⟨a, vs, ev, q, r⟩ := R.own hl0
    refine ⟨.ref a, ev, R.tyL hi ev, ?_⟩
    simp only [evD, bnd, hl0] at p
    obtain ⟨d, hd, p⟩ := p.map
    obtain ⟨w, hw, rw'⟩ := r.get hd
    rw [r.len] at hw
    obtain ⟨R', s'⟩ := R.put hl0 ev r.dropLast
    exact ⟨a, vs, w, rfl, rfl, q, hw, p.ok R' s' ⟨trivial, rw', fun a h => absurd h.1 (by simp [isOwn])⟩⟩
theorem se_pop1 {i : Nat} {e k : Expr} {m : Ex} {apos pos : Pos} (he : PE X e (tVar i)) (hk : PE X k (tE g cl M W m)) (hn : nst k = true) (hbase : attributeBase e "pop" X.env (eval e X.env) = eval e X.env)
    (hfew : ((backTo pos (starEach [k] X.env)).all (fun x => !x.1) && (backToKw pos (keywordEach [] X.env)).all (fun x => x.1.isSome)
      && decide ([k].length + ([] : List Keyword).length + (if ([] : List Keyword).isEmpty then 0 else 1) < 30)) = true) (hline : (apos.endLine == pos.line) = true) :
    PE X (.Call (.Attribute e "pop" apos) [k] [] pos) (tE g cl M W (.pop i (.cons false m .nil))) := by
  refine pe_imp (pe_bm F.plainAttrs_list F.slot_list_pop F.type_list_pop (fun pins s σ H x xs v us Q I rx rv h => mt_popAt pins s σ H x xs v us Q I rx rv h) he (pa_cons (sf_of hk) pa_nil (star_of hn)) hbase hfew hline (star_of hn) rfl) fun σ H Q ⟨ρ, F, R, p⟩ => ?_
  simp only [evE] at p
  split at p
  · exact p.elim
  · rename_i hi
    have hi : isLst ρ i = true := by simpa using hi
    obtain ⟨l0, hl0⟩ := isLst_some hi
    obtain ⟨a, vs0, ev, q0, r0⟩ := R.own hl0
    refine ⟨.ref a, ev, R.tyL hi ev, ρ, F, R, ?_⟩
    have e1 : evD g cl (.cons false m .nil) ρ = bnd (bnd (evE g cl m ρ) fun c ρ => some (.ok c.d ρ)) fun d ρ => some (.ok [d] ρ) := by
      rw [bnd_assoc]; simp only [evD]; rfl
    rw [e1, bnd_assoc] at p
    refine Post.bnd p bk_PC fun d ρ1 w F1 H1 _ R1 s1 pd p => ?_
    simp only [bnd] at p
    split at p
    · rename_i hl hd; cases hd
    · rename_i l k' hl hd
      cases hd
      have hw : w = .int k' := pd
      subst hw
      split at p
      · rename_i j hj
        split at hj
        · rename_i hk'
          obtain ⟨d', hd', p⟩ := p.map
          obtain ⟨a1, vs, ev1, q, r⟩ := R1.own hl
          rw [ev] at ev1; cases ev1
          obtain ⟨u, hu, ru⟩ := r.get hd'
          obtain ⟨R', s'⟩ := R1.put hl ev (r.eraseIdx j)
          refine ⟨a, vs, k', j, u, rfl, rfl, q, hk'.1, hk'.2, ?_, hu, p.ok R' s' ⟨trivial, ru, fun a h => absurd h.1 (by simp [isOwn])⟩⟩
          rw [← r.len]
          exact (ixN_seq hj).1
        · cases hj
      · exact False.elim p
    · exact False.elim p
end
end Ev
end

section
set_option maxHeartbeats 0
namespace Ev
open PySem PySem.Spec PyProof.Rows L2

/-- a source -/
inductive Sq where
  | l (a : Addr) | t (a : Addr) | s (x : Str)
def Sq.v : Sq → V | .l a => .ref a | .t a => .ref a | .s x => .str x
def Sq.adr : Sq → List Addr | .l a => [a] | .t a => [a] | .s _ => []
def chars (x : Str) : List V := x.cps.toList.map fun c => .str ⟨#[c]⟩
def Sq.has (K : PySem.W.Frag) (H : Hp) : Sq → List V → Prop
  | .l a, xs => SqL K H a xs | .t a, xs => SqT K H a xs | .s x, xs => xs = chars x
def Sq.val (k : Tok) : Sq → Value | .l a => .ref a | .t a => .ref a | .s x => .str x k
def Sq.itr (k : Tok) (it : Addr) (i : Nat) (h : Heap) : Sq → Prop
  | .l a => h.IsListIter it a i | .t a => h.IsTupleIter it a i | .s x => h.IsStrIter it (strIterType x) x k i
def Sq.obj (k : Tok) : Sq → Obj
  | .l a => { cls := .type "list_iterator", data := .fields #[.ref a, .int 0 0] }
  | .t a => { cls := .type "tuple_iterator", data := .fields #[.ref a, .int 0 0] }
  | .s x => { cls := .type (strIterType x), data := .fields #[.str x k, .int 0 0] }
theorem Sq.rel {q : Sq} {u : Value} (r : RelV q.v u) : ∃ k, u = q.val k := by
  cases q with
  | l a => exact ⟨0, r⟩
  | t a => exact ⟨0, r⟩
  | s x => obtain ⟨k, e⟩ := r; exact ⟨k, e⟩
theorem Sq.frame {q : Sq} {k : Tok} {it : Addr} {i : Nat} {h h' : Heap} (st : q.itr k it i h) (e : ∀ o, h.get? it = some o → h'.get? it = some o) : q.itr k it i h' := by
  cases q with
  | l a => exact Heap.IsListIter.at st e
  | t a => exact Heap.IsTupleIter.at st e
  | s x => obtain ⟨o, ho, r⟩ := st; exact ⟨o, e o ho, r⟩
theorem Sq.iobj {q : Sq} {k : Tok} {it : Addr} {i : Nat} {h : Heap} (st : q.itr k it i h) : ∃ o, h.get? it = some o ∧ ∀ v, o.data ≠ .cell v := by
  cases q with
  | l a => obtain ⟨o, e, c, d⟩ := st; exact ⟨o, e, fun v z => by rw [d] at z; cases z⟩
  | t a => obtain ⟨o, e, c, d⟩ := st; exact ⟨o, e, fun v z => by rw [d] at z; cases z⟩
  | s x => obtain ⟨o, e, c, d⟩ := st; exact ⟨o, e, fun v z => by rw [d] at z; cases z⟩
theorem Sq.begun {q : Sq} {k : Tok} {it : Addr} {h : Heap} (e : h.get? it = some (q.obj k)) : q.itr k it 0 h := by
  cases q with
  | l a => exact ⟨_, e, rfl, rfl⟩
  | t a => exact ⟨_, e, rfl, rfl⟩
  | s x => exact ⟨_, e, rfl, rfl⟩
theorem valsAt : ∀ {xs : List V} {us : List Value} {i : Nat} {u : Value}, Vals xs us → us[i]? = some u → ∃ x, xs[i]? = some x ∧ RelV x u
  | _, _, _, _, .nil, e => by simp at e
  | _, _, 0, _, .cons r t, e => by simp at e; exact ⟨_, rfl, e ▸ r⟩
  | _, _, i + 1, _, .cons r t, e => by
    obtain ⟨x, h1, h2⟩ := valsAt (i := i) t (by simpa using e)
    exact ⟨x, by simpa using h1, h2⟩
section
variable {X : Cx} {pins : List (Addr × Obj)} {σ : L2.St} {H : Hp} {s : Shared}
theorem Sq.begins {q : Sq} {xs : List V} (I : Inv X pins σ H s) (h : q.has X.K H xs) (k : Tok) : ∃ P, Begins (q.val k) (q.obj k) P ∧ P s.heap := by
  cases q with
  | l a =>
    obtain ⟨its, rv, p, _⟩ := I.list h
    exact ⟨_, begins_list a its.toArray, p.isList⟩
  | t a =>
    obtain ⟨its, rv, p, _⟩ := I.tuple h
    exact ⟨_, begins_tuple a its.toArray, p⟩
  | s x => exact ⟨_, begins_text x k, trivial⟩
theorem Sq.lt {q : Sq} {xs : List V} (I : Inv X pins σ H s) (h : q.has X.K H xs) : ∀ b ∈ q.adr, b < s.heap.objs.size := by
  intro b hb
  cases q with
  | l a =>
    obtain ⟨its, rv, p, _⟩ := I.list h
    obtain rfl : b = a := by simpa [Sq.adr] using hb
    exact p.lt
  | t a =>
    obtain ⟨its, rv, p, _⟩ := I.tuple h
    obtain rfl : b = a := by simpa [Sq.adr] using hb
    obtain ⟨o, e, _⟩ := p
    exact Heap.lt_size e
  | s x => exact absurd hb (by simp [Sq.adr])
theorem Sq.draws {q : Sq} {xs : List V} {A : Around} (hh : A.handled = none) (I : Inv X pins σ H s) (h : q.has X.K H xs) (k : Tok) (it : Addr) (hne : it ∉ q.adr) :
    ∃ P St, Draws X.prog X.w A it (it :: q.adr) xs.length P St ∧ (∀ j h, St j h → q.itr k it j h) ∧ (∀ j, q.itr k it j s.heap → St j s.heap) ∧ ∀ (j : Nat) v, P j v → ∃ x, xs[j]? = some x ∧ RelV x v := by
  cases q with
  | l a =>
    obtain ⟨its, rv, p, _⟩ := I.list h
    have hl := rv.length
    have D := Draws.list (prog := X.prog) (w := X.w) hh it a (fun e => hne (by simp [Sq.adr, e])) its.toArray
    rw [List.size_toArray, ← hl] at D
    refine ⟨_, _, D, fun j h st => st.1, fun j st => ⟨st, p.isList⟩, fun j v e => ?_⟩
    have e : its[j]? = some v := by simpa using e
    exact valsAt rv e
  | t a =>
    obtain ⟨its, rv, p, _⟩ := I.tuple h
    have hl := rv.length
    have D := Draws.tuple (prog := X.prog) (w := X.w) hh it a (fun e => hne (by simp [Sq.adr, e])) its.toArray
    rw [List.size_toArray, ← hl] at D
    refine ⟨_, _, D, fun j h st => st.1, fun j st => ⟨st, p⟩, fun j v e => ?_⟩
    have e : its[j]? = some v := by simpa using e
    exact valsAt rv e
  | s x =>
    have hx : xs = chars x := h
    have D := Draws.text (prog := X.prog) (w := X.w) hh it x k
    have hl : x.cps.size = xs.length := by rw [hx]; simp [chars]
    rw [hl] at D
    refine ⟨_, _, D, fun j h st => st, fun j st => st, fun j v ⟨c, u, e1, e2⟩ => ⟨.str ⟨#[c]⟩, ?_, u, e2⟩⟩
    rw [hx]
    simp [chars, e1]
end
/-- what is walked stays as it is -/
def ItS (has : Hp → Prop) (n : Nat) (y : Nat → Hp → V → Hp → Prop) : It := ⟨fun i H => has H ∧ i < n, y, fun i H => has H ∧ i = n⟩
def yT (ys : Nat → List V → Prop) : Nat → Hp → V → Hp → Prop := fun i H v H' => ∃ T vs, v = .ref T ∧ H T = none ∧ H' = L2.upd H T (.tup vs) ∧ ys i vs
/-- an iterator of new tuples -/
theorem turn_T {P : Program} {w : World} {K : PySem.W.Frag} {elts : List Expr} {kk : Nat} {tpos : Pos} {it : Addr} {fp wr : List Addr} {n : Nat} {has : Hp → Prop} {ys : Nat → List V → Prop} {tn : Nat → Heap → Prop}
    (mem : it ∈ fp) (obj : ∀ i h, tn i h → ∀ b ∈ fp, ∃ o, h.get? b = some o ∧ ∀ v, o.data ≠ .cell v) (keep : ∀ i h h', tn i h → (∀ b ∈ fp, ∀ o, h.get? b = some o → h'.get? b = some o) → tn i h')
    (self : ∀ (A : Around) (i : Nat) (s : Shared) (Q : Value → Shared → Prop) (E : Value → Shared → Prop), tn i s.heap → Q (.ref it) s → wpAny (model P w) A (pyIter (.ref it)) Q E s)
    (sub : ∀ b ∈ wr, b ∈ fp)
    (goes : ∀ (X : Cx), X.prog = P → X.w = w → X.K = K → X.calm = true → ∀ (pins : List (Addr × Obj)) (s : Shared) (σ : L2.St) (H : Hp), Inv X pins σ H s → has H →
      ∃ fpW Pt St Mid, WalksT P w X.A it fpW wr n Pt St Mid ∧ (∀ j, tn j s.heap → St j s.heap) ∧ (∀ j h, St j h → tn j h) ∧ ∀ (j : Nat) (vals : Array Value), Pt j vals → ∃ vs, ys j vs ∧ Vals vs vals.toList ∧ vs.length ≤ sizeLine) :
    Turn P w K (.Tuple elts kk tpos) (ItS has n (yT ys)) fp it tn where
  mem := mem
  obj := obj
  keep := keep
  self := self
  item := by
    intro X hP hw hK hc i pins s σ H E I hf st hg
    obtain ⟨fpW, Pt, St, Mid, W, h1, h2, h3⟩ := goes X hP hw hK hc pins s σ H I hg.1
    refine (GoesN.ofWalksT (elts := elts) (k := kk) (pos := tpos) W).goes i s (fun u s2 => ∃ x H', Inv X pins σ H' s2 ∧ RelV x u ∧ yT ys i H x H' ∧ tn (i + 1) s2.heap ∧ ∀ b ∈ fp, H' b = none) E hg.2 (h1 i st) fun v h' tk ⟨T, vals, ev, hT, pt, ht⟩ st' kp _ => ?_
    obtain ⟨vs, hy, rv, hz⟩ := h3 i vals pt
    have new : ObjOk X.prog X.w (L2.upd H T (.tup vs)) h' T (.tup vs) := by
      obtain ⟨o, e, c, dn, d⟩ := ht
      exact ⟨hz, vals.toList, rv, ⟨o, e, c, dn, by rw [d]⟩⟩
    have I1 : Inv X pins σ (L2.upd H T (.tup vs)) { s with heap := h', toks := tk } := I.turnedNew (ch := fp) (fun b o hb e => kp b o (fun z => hb (sub b z)) e) hf hT new
    subst ev
    refine ⟨.ref T, _, I1, rfl, ⟨T, vs, rfl, I.hok.fresh hT, rfl, hy⟩, h2 _ _ st', fun b hb => ?_⟩
    rw [upd_ne]
    · exact (hf b hb).1
    · intro z
      obtain ⟨o, e, _⟩ := obj i _ st b hb
      exact absurd (Heap.lt_size e) (by rw [z]; exact Nat.not_lt.mpr hT)
  done := by
    intro X hP hw hK hc i pins s σ H E I hf st hg
    obtain ⟨fpW, Pt, St, Mid, W, h1, h2, h3⟩ := goes X hP hw hK hc pins s σ H I hg.1
    obtain ⟨_, rfl⟩ := hg
    exact (GoesN.ofWalksT (elts := elts) (k := kk) (pos := tpos) W).stops s (fun s1 => Inv X pins σ H s1) E (h1 _ st) fun h' tk kp _ => I.turnedL (ch := fp) (fun b o hb e => kp b o (fun z => hb (sub b z)) e) hf
theorem Turn.imp {P : Program} {w : World} {K : PySem.W.Frag} {tg : Expr} {J J' : It} {fp : List Addr} {it : Addr} {tn : Nat → Heap → Prop} (T : Turn P w K tg J fp it tn) (h1 : ∀ i H, J'.go i H → J.go i H)
    (h2 : ∀ i H x H', J'.go i H → J.yld i H x H' → J'.yld i H x H') (h3 : ∀ i H, J'.stop i H → J.stop i H) : Turn P w K tg J' fp it tn where
  mem := T.mem
  obj := T.obj
  keep := T.keep
  self := T.self
  item := fun X hP hw hK hc i pins s σ H E I hf st hg => wpAny_mono (T.item X hP hw hK hc i pins s σ H E I hf st (h1 i H hg)) (fun r s1 ⟨u, hr, h⟩ => ⟨u, hr, wpAny_mono h (fun _ s2 ⟨x, H', a, b, c, d⟩ => ⟨x, H', a, b, h2 i H x H' hg c, d⟩) fun _ _ z => z⟩) fun _ _ z => z
  done := fun X hP hw hK hc i pins s σ H E I hf st hg => T.done X hP hw hK hc i pins s σ H E I hf st (h3 i H hg)
def y1 (xs : List V) : Nat → Hp → V → Hp → Prop := fun i H v H' => H' = H ∧ xs[i]? = some v
def ySq (K : PySem.W.Frag) (q : Sq) (xs : List V) : It := ItS (fun H => q.has K H xs) xs.length (y1 xs)
section
variable {X : Cx} {tg : Expr}
/-- a list, a tuple, a text -/
def iSq (K : PySem.W.Frag) (te : TE) : TI := fun σ H R => te σ H fun v H1 => ∃ q xs, v = Sq.v q ∧ Sq.has K H1 q xs ∧ R (ySq K q xs) H1
theorem pi_sq {e : Expr} {te : TE} (he : PE X e te) : PI X tg e (iSq X.K te) := by
  refine ⟨fun pins s σ H R I h => ?_⟩
  refine thn (he.run pins s σ H _ I h) fun v s1 ⟨x, H1, I1, r1, q, xs, e1, hq, hR⟩ => ?_
  subst e1
  obtain ⟨k, rfl⟩ := Sq.rel r1
  cases q with
  | l a =>
    obtain ⟨its, rv, p, hz⟩ := I1.list hq
    refine wpAny_pyIter_list p.isList (pi_one (tk := s1.toks) I1 _ (Turn.imp (turn_list a _) (fun i H hg => ?_) (fun i H x H' hg hy => ?_) fun i H hg => ?_) ⟨_, Heap.get?_push_size _ rfl, rfl, rfl⟩ hR)
    · exact ⟨xs, xs[i]'hg.2, hg.1, List.getElem?_eq_getElem hg.2⟩
    · exact ⟨hy.1, hy.2 xs hg.1⟩
    · exact ⟨xs, hg.1, Nat.le_of_eq hg.2.symm⟩
  | t a =>
    obtain ⟨its, rv, p, hz⟩ := I1.tuple hq
    refine wpAny_pyIter_tuple (show s1.heap.IsTuple a its.toArray from p) (pi_one (tk := s1.toks) I1 _ (Turn.imp (turn_tuple a _) (fun i H hg => ?_) (fun i H x H' hg hy => ?_) fun i H hg => ?_) ⟨_, Heap.get?_push_size _ rfl, rfl, rfl⟩ hR)
    · exact ⟨xs, xs[i]'hg.2, hg.1, List.getElem?_eq_getElem hg.2⟩
    · exact ⟨hy.1, hy.2 xs hg.1⟩
    · exact ⟨xs, hg.1, Nat.le_of_eq hg.2.symm⟩
  | s x =>
    have hx : xs = chars x := hq
    have hl : xs.length = x.cps.size := by rw [hx]; simp [chars]
    have T : ∀ it ty, ty = "str_ascii_iterator" ∨ ty = "str_iterator" → Turn X.prog X.w X.K tg (ySq X.K (.s x) xs) [it] it (fun i h => h.IsStrIter it ty x k i) := fun it ty hty => by
      refine Turn.imp (turn_str it x k ty hty) (fun i H hg => ?_) (fun i H v H' hg hy => ?_) fun i H hg => ?_
      · show i < x.cps.size
        rw [← hl]; exact hg.2
      · obtain ⟨h1, c, hc, rfl⟩ := hy
        refine ⟨h1, ?_⟩
        rw [hx]; simp [chars, hc]
      · show x.cps.size ≤ i
        rw [← hl, hg.2]; exact Nat.le_refl _
    cases ha : x.cps.all (· < 128)
    · exact wpAny_pyIter_wide ha (pi_one (tk := s1.toks) I1 _ (T _ "str_iterator" (.inr rfl)) ⟨_, Heap.get?_push_size _ rfl, rfl, rfl⟩ hR)
    · exact wpAny_pyIter_ascii ha (pi_one (tk := s1.toks) I1 _ (T _ "str_ascii_iterator" (.inl rfl)) ⟨_, Heap.get?_push_size _ rfl, rfl, rfl⟩ hR)
def yEn (k : Int) (xs : List V) : Nat → List V → Prop := fun i vs => ∃ x, vs = [.int (k + (i : Nat)), x] ∧ xs[i]? = some x
theorem turn_en {P : Program} {w : World} {K : PySem.W.Frag} {elts : List Expr} {kk : Nat} {tpos : Pos} {k : Int} {e it : Addr} {q : Sq} {tk : Tok} {xs : List V} (h1 : e ≠ it) (h2 : it ∉ q.adr) (h3 : e ∉ q.adr) :
    Turn P w K (.Tuple elts kk tpos) (ItS (fun H => q.has K H xs) xs.length (yT (yEn k xs))) [e, it] e (fun i h => (∃ old, IsEnum h e it (k + ((i : Nat) : Int)) old) ∧ q.itr tk it i h) := by
  refine turn_T (wr := [e, it]) (by simp) (fun i h ⟨⟨old, he⟩, st⟩ b hb => ?_) (fun i h h' ⟨⟨old, he⟩, st⟩ kp => ?_) (fun A i s Q E ⟨⟨old, he⟩, st⟩ h => wpAny_pyIter_enum he h) (fun b hb => hb) fun X hP hw hK hc pins s σ H I hq => ?_
  · have e' : b = e ∨ b = it := by simpa using hb
    rcases e' with z | z
    · rw [z]; exact ⟨_, he, fun v q => nomatch q⟩
    · rw [z]; exact Sq.iobj st
  · exact ⟨⟨old, kp e (by simp) _ he⟩, Sq.frame st (kp it (by simp))⟩
  · subst hP hw hK
    obtain ⟨Pd, St, D, d1, d2, d3⟩ := Sq.draws (A := X.A.in1) (I.ok.hd hc) I hq tk it h2
    refine ⟨_, _, _, _, WalksT.enumFrom k D e h1 (fun z => ?_) (by simp), fun j st => ⟨st.1, d2 j st.2⟩, fun j h st => ⟨st.1, d1 j h st.2⟩, fun j vals ⟨t, x, hp, e⟩ => ?_⟩
    · rcases List.mem_cons.mp z with z | z
      · exact h1 z
      · exact h3 z
    · subst e
      obtain ⟨y, hy, ry⟩ := d3 j x hp
      exact ⟨[.int (k + (j : Nat)), y], ⟨y, rfl, hy⟩, .cons ⟨t, rfl⟩ (.cons ry .nil), by show 2 ≤ sizeLine; decide⟩
def iEn (K : PySem.W.Frag) (k : Int) (te : TE) : TI := fun σ H R => te σ H fun v H1 => ∃ q xs, v = Sq.v q ∧ Sq.has K H1 q xs ∧ R (ItS (fun H => q.has K H xs) xs.length (yT (yEn k xs))) H1
/-- an enumerate just made -/
theorem en_core {pins : List (Addr × Obj)} {s : Shared} {σ : L2.St} {H : Hp} {R : It → Hp → Prop} {elts : List Expr} {kk : Nat} {tpos : Pos} {q : Sq} {xs : List V} {tk : Tok} {k : Int} (I : Inv X pins σ H s) (hq : q.has X.K H xs)
    (hR : R (ItS (fun H => q.has X.K H xs) xs.length (yT (yEn k xs))) H) (h' : Heap) (he : IsEnum h' (s.heap.objs.size + 1) s.heap.objs.size k .none) (hi : h'.get? s.heap.objs.size = some (q.obj tk)) (hk : ∀ b o, s.heap.get? b = some o → h'.get? b = some o) :
    wpAny (model X.prog X.w) X.A (pyIter (.ref (s.heap.objs.size + 1))) (PIE X pins σ (.Tuple elts kk tpos) R) X.xe { s with heap := h' } := by
  have I2 : Inv X pins σ H { s with heap := h' } := I.kept (t' := s.toks) hk
  have lt := Sq.lt I hq
  refine wpAny_pyIter_enum he ⟨s.heap.objs.size + 1, [s.heap.objs.size + 1, s.heap.objs.size], _, _, H, rfl, I2, turn_en (k := k) (tk := tk) (Nat.succ_ne_self _) (fun z => absurd (lt _ z) (Nat.lt_irrefl _)) (fun z => absurd (lt _ z) (Nat.not_lt.mpr (Nat.le_succ _))), ?_, fun b hb => ?_, hR⟩
  · refine ⟨⟨.none, ?_⟩, Sq.begun hi⟩
    have : k + ((0 : Nat) : Int) = k := by simp
    rw [this]; exact he
  · have e' : b = s.heap.objs.size + 1 ∨ b = s.heap.objs.size := by simpa using hb
    have hle : s.heap.objs.size ≤ b := by
      rcases e' with z | z
      · rw [z]; exact Nat.le_add_right _ _
      · rw [z]; exact Nat.le_refl _
    exact I.fpOk hle (I.hok.fresh hle)
end
end Ev
end

section
set_option maxHeartbeats 0
namespace Ev
open PySem PySem.Spec PyProof.Rows L2
/-- enumerate(v), v anything that begins -/
theorem en_new1 {v : Value} {o : Obj} {Hc : Heap → Prop} (B : Begins v o Hc) : Meets (Builtin.«enumerate.__new__» ⟨[.type "enumerate", v], []⟩) (fun _ R s => Hc s.heap ∧
      R (.ok (.ret (.ref (s.heap.push o).objs.size))) { s with heap := (s.heap.push o).push { cls := .type "enumerate", data := .fields #[.none, .bool false, .ref s.heap.objs.size, rawInt 0, .none, .none] } }) := .of_wp fun P w A R s hh => by
  obtain ⟨hp, gs, dr, tk, os⟩ := s
  obtain ⟨hB, hR⟩ := hh
  have hsub := sub_enumerate
  have qI : ∀ {A' : Around} {E : Value → Shared → Prop} {Q : Value → Shared → Prop}, Q (.ref hp.objs.size) ⟨hp.push o, gs, dr, tk, os⟩ → wpAny (model P w) A' (pyIter v) Q E ⟨hp, gs, dr, tk, os⟩ := fun k => B.iter P w _ _ ⟨hp, gs, dr, tk, os⟩ _ hB k
  wp_walk using qI
  refine wpAny_stack_any fun st => wpAny_pure ?_
  split
  · rename_i c _ _ _ _ _
    by_cases hc : (c == Value.type "enumerate") = true
    · rw [hc]; wp_walk using qI
      exact ⟨_, rfl, hR⟩
    · rw [Bool.eq_false_iff.mpr hc]; wp_walk using qI
      exact ⟨_, rfl, hR⟩
  · wp_walk using qI
    exact ⟨_, rfl, hR⟩
section
variable {prog : Program} {w : World} {A : Around} {E : Value → Shared → Prop} {s : Shared}
theorem en_begins1 {v : Value} {o : Obj} {Hc : Heap → Prop} {Q : Value → Shared → Prop} (B : Begins v o Hc) (h1 : Hc s.heap)
    (h : ∀ h', IsEnum h' (s.heap.objs.size + 1) s.heap.objs.size 0 .none → h'.get? s.heap.objs.size = some o → (∀ b o, s.heap.get? b = some o → h'.get? b = some o) → Q (.ref (s.heap.objs.size + 1)) { s with heap := h' }) :
    wpAny (model prog w) A (call (.type "enumerate") [v]) Q E s := by
  refine callType_new F.called_enumerate (by decide) (F.typeCall_enumerate_1 _) (F.newCall_enumerate_1 _) (fun obj => F.args_object_init_2 obj _) F.entry_enumerate_new (en_new1 B) ⟨h1, ?_⟩
  have hz : (s.heap.push o).objs.size = s.heap.objs.size + 1 := Heap.size_push ..
  have he : IsEnum ((s.heap.push o).push { cls := .type "enumerate", data := .fields #[.none, .bool false, .ref s.heap.objs.size, rawInt 0, .none, .none] }) (s.heap.objs.size + 1) s.heap.objs.size 0 .none := by
    have k := Heap.get?_push_size (s.heap.push o) (o := { cls := .type "enumerate", data := .fields #[.none, .bool false, .ref s.heap.objs.size, rawInt 0, .none, .none] }) rfl
    rw [hz] at k; exact k
  show _ ∧ _
  rw [hz]
  exact ⟨⟨_, he, rfl⟩, h _ he (Heap.get?_push_of_some _ (Heap.get?_push_size _ B.free)) fun b ob e => Heap.get?_push_of_some _ (Heap.get?_push_of_some _ e)⟩
end
def enJ (K : PySem.W.Frag) (k : Int) (q : Sq) (xs : List V) : It := ItS (fun H => q.has K H xs) xs.length (yT (yEn k xs))
section
variable {X : Cx} {p pos tpos : Pos} {elts : List Expr} {kk : Nat}
def iEn1 (K : PySem.W.Frag) (ta : TA) : TI := fun σ H R => ta σ H fun vs H1 => ∃ q xs, vs = [Sq.v q] ∧ Sq.has K H1 q xs ∧ R (enJ K 0 q xs) H1
def iEn2 (K : PySem.W.Frag) (ta : TA) : TI := fun σ H R => ta σ H fun vs H1 => ∃ q xs k, vs = [Sq.v q, .int k] ∧ -(2 ^ 63) ≤ k ∧ k < 2 ^ 63 ∧ Sq.has K H1 q xs ∧ R (enJ K k q xs) H1
theorem pi_en1 {e : Expr} {ta : TA} (hg : Gl X "enumerate") (hm : X.mg "enumerate" = none) (ha : PA X [e] ta) (hn : nst e = true) : PI X (.Tuple elts kk tpos) (.Call (.Name "enumerate" p) [e] [] pos) (iEn1 X.K ta) := by
  refine ⟨fun pins s σ H R I h => ?_⟩
  refine Call_ (ld_blt I hg hm boot_enumerate (PyProof.Rows.callWith_type1 (thn (ha.run pos pins s σ H _ I h) fun us s1 ⟨vs, H1, I1, r1, q1⟩ => ?_) (star_of hn) rfl))
  obtain ⟨q, xs, e1, hq, hR⟩ := q1
  subst e1
  obtain ⟨u, rfl, ru⟩ := vals1 r1
  obtain ⟨k, rfl⟩ := Sq.rel ru
  obtain ⟨P, B, hP⟩ := Sq.begins I1 hq k
  exact en_begins1 B hP fun h' he hi hk => en_core I1 hq hR h' he hi hk
theorem pi_en2 {e e2 : Expr} {ta : TA} (hg : Gl X "enumerate") (hm : X.mg "enumerate" = none) (ha : PA X [e, e2] ta) (hn : nst e = true) (hn2 : nst e2 = true) : PI X (.Tuple elts kk tpos) (.Call (.Name "enumerate" p) [e, e2] [] pos) (iEn2 X.K ta) := by
  refine ⟨fun pins s σ H R I h => ?_⟩
  refine Call_ (ld_blt I hg hm boot_enumerate (PyProof.Rows.callWith_type1 (thn (ha.run pos pins s σ H _ I h) fun us s1 ⟨vs, H1, I1, r1, q1⟩ => ?_) (star_of hn) (by rw [star_of hn2]; rfl)))
  obtain ⟨q, xs, k0, e1, h1, h2, hq, hR⟩ := q1
  subst e1
  obtain ⟨u, u2, rfl, ru, ru2⟩ := vals2 r1
  obtain ⟨k, rfl⟩ := Sq.rel ru
  obtain ⟨t, rfl⟩ := ru2
  obtain ⟨P, B, hP⟩ := Sq.begins I1 hq k
  exact enum_begins B hP h1 h2 fun h' he hi _ hk => en_core I1 hq hR h' he hi hk

def yZ2 (xs ys : List V) : Nat → List V → Prop := fun i vs => ∃ x y, vs = [x, y] ∧ xs[i]? = some x ∧ ys[i]? = some y
def yZ3 (xs ys zs : List V) : Nat → List V → Prop := fun i vs => ∃ x y z, vs = [x, y, z] ∧ xs[i]? = some x ∧ ys[i]? = some y ∧ zs[i]? = some z
def zJ2 (K : PySem.W.Frag) (q r : Sq) (xs ys : List V) : It := ItS (fun H => q.has K H xs ∧ r.has K H ys) (min xs.length ys.length) (yT (yZ2 xs ys))
def zJ3 (K : PySem.W.Frag) (q r u : Sq) (xs ys zs : List V) : It := ItS (fun H => q.has K H xs ∧ r.has K H ys ∧ u.has K H zs) (min (min xs.length ys.length) zs.length) (yT (yZ3 xs ys zs))
theorem turn_z2 {P : Program} {w : World} {K : PySem.W.Frag} {z TI TO i1 i2 : Addr} {q r : Sq} {k1 k2 : Tok} {xs ys : List V} (S : ZipSep2 z TI TO i1 i2 (i1 :: q.adr) (i2 :: r.adr)) (hq : i1 ∉ q.adr) (hr : i2 ∉ r.adr) :
    Turn P w K (.Tuple elts kk tpos) (zJ2 K q r xs ys) [z, TI, TO, i1, i2] z
      (fun i h => IsZip h z TI TO .none ∧ IsTupOf2 h TI (.ref i1) (.ref i2) ∧ (∃ a1 a2, IsTupOf2 h TO a1 a2) ∧ q.itr k1 i1 i h ∧ r.itr k2 i2 i h) := by
  refine turn_T (wr := [z, TO, i1, i2]) (by simp) (fun i h ⟨h1, h2, ⟨a1, a2, h3⟩, h4, h5⟩ b hb => ?_) (fun i h h' ⟨h1, h2, ⟨a1, a2, h3⟩, h4, h5⟩ kp => ?_) (fun A i s Q E st h => wpAny_pyIter_zip st.1 h) (fun b hb => ?_) fun X hP hw hK hc pins s σ H I hqr => ?_
  · have e' : b = z ∨ b = TI ∨ b = TO ∨ b = i1 ∨ b = i2 := by simpa using hb
    rcases e' with e | e | e | e | e
    · rw [e]; exact ⟨_, h1, fun v q => nomatch q⟩
    · rw [e]; exact ⟨_, h2, fun v q => nomatch q⟩
    · rw [e]; exact ⟨_, h3, fun v q => nomatch q⟩
    · rw [e]; exact Sq.iobj h4
    · rw [e]; exact Sq.iobj h5
  · exact ⟨kp z (by simp) _ h1, kp TI (by simp) _ h2, ⟨a1, a2, kp TO (by simp) _ h3⟩, Sq.frame h4 (kp i1 (by simp)), Sq.frame h5 (kp i2 (by simp))⟩
  · have e' : b = z ∨ b = TO ∨ b = i1 ∨ b = i2 := by simpa using hb
    rcases e' with e | e | e | e <;> simp [e]
  · subst hP hw hK
    have hh : X.A.in1.handled = none := I.ok.hd hc
    obtain ⟨P1, St1, D1, d1, d2, d3⟩ := Sq.draws hh I hqr.1 k1 i1 hq
    obtain ⟨P2, St2, D2, e1, e2, e3⟩ := Sq.draws hh I hqr.2 k2 i2 hr
    refine ⟨_, _, _, _, WalksT.zipD2 S D1 D2, fun j ⟨a, b, c, d, e⟩ => ⟨a, b, c, d2 j d, e2 j e⟩, fun j h ⟨a, b, c, d, e⟩ => ⟨a, b, c, d1 j h d, e1 j h e⟩, fun j vals ⟨x, y, hx, hy, e⟩ => ?_⟩
    subst e
    obtain ⟨x', hx', rx⟩ := d3 j x hx
    obtain ⟨y', hy', ry⟩ := e3 j y hy
    exact ⟨[x', y'], ⟨x', y', rfl, hx', hy'⟩, .cons rx (.cons ry .nil), by show 2 ≤ sizeLine; decide⟩
theorem turn_z3 {P : Program} {w : World} {K : PySem.W.Frag} {z TI TO i1 i2 i3 : Addr} {q r u : Sq} {k1 k2 k3 : Tok} {xs ys zs : List V} (S : ZipSep3 z TI TO i1 i2 i3 (i1 :: q.adr) (i2 :: r.adr) (i3 :: u.adr)) (hq : i1 ∉ q.adr) (hr : i2 ∉ r.adr) (hu : i3 ∉ u.adr) :
    Turn P w K (.Tuple elts kk tpos) (zJ3 K q r u xs ys zs) [z, TI, TO, i1, i2, i3] z
      (fun i h => IsZip h z TI TO .none ∧ IsTupOf3 h TI (.ref i1) (.ref i2) (.ref i3) ∧ (∃ a1 a2 a3, IsTupOf3 h TO a1 a2 a3) ∧ q.itr k1 i1 i h ∧ r.itr k2 i2 i h ∧ u.itr k3 i3 i h) := by
  refine turn_T (wr := [z, TO, i1, i2, i3]) (by simp) (fun i h ⟨h1, h2, ⟨a1, a2, a3, h3⟩, h4, h5, h6⟩ b hb => ?_) (fun i h h' ⟨h1, h2, ⟨a1, a2, a3, h3⟩, h4, h5, h6⟩ kp => ?_) (fun A i s Q E st h => wpAny_pyIter_zip st.1 h) (fun b hb => ?_) fun X hP hw hK hc pins s σ H I hqr => ?_
  · have e' : b = z ∨ b = TI ∨ b = TO ∨ b = i1 ∨ b = i2 ∨ b = i3 := by simpa using hb
    rcases e' with e | e | e | e | e | e
    · rw [e]; exact ⟨_, h1, fun v q => nomatch q⟩
    · rw [e]; exact ⟨_, h2, fun v q => nomatch q⟩
    · rw [e]; exact ⟨_, h3, fun v q => nomatch q⟩
    · rw [e]; exact Sq.iobj h4
    · rw [e]; exact Sq.iobj h5
    · rw [e]; exact Sq.iobj h6
  · exact ⟨kp z (by simp) _ h1, kp TI (by simp) _ h2, ⟨a1, a2, a3, kp TO (by simp) _ h3⟩, Sq.frame h4 (kp i1 (by simp)), Sq.frame h5 (kp i2 (by simp)), Sq.frame h6 (kp i3 (by simp))⟩
  · have e' : b = z ∨ b = TO ∨ b = i1 ∨ b = i2 ∨ b = i3 := by simpa using hb
    rcases e' with e | e | e | e | e <;> simp [e]
  · subst hP hw hK
    have hh : X.A.in1.handled = none := I.ok.hd hc
    obtain ⟨P1, St1, D1, d1, d2, d3⟩ := Sq.draws hh I hqr.1 k1 i1 hq
    obtain ⟨P2, St2, D2, e1, e2, e3⟩ := Sq.draws hh I hqr.2.1 k2 i2 hr
    obtain ⟨P3, St3, D3, f1, f2, f3⟩ := Sq.draws hh I hqr.2.2 k3 i3 hu
    refine ⟨_, _, _, _, WalksT.zipD3 S D1 D2 D3, fun j ⟨a, b, c, d, e, f⟩ => ⟨a, b, c, d2 j d, e2 j e, f2 j f⟩, fun j h ⟨a, b, c, d, e, f⟩ => ⟨a, b, c, d1 j h d, e1 j h e, f1 j h f⟩, fun j vals ⟨x, y, z, hx, hy, hz, e⟩ => ?_⟩
    subst e
    obtain ⟨x', hx', rx⟩ := d3 j x hx
    obtain ⟨y', hy', ry⟩ := e3 j y hy
    obtain ⟨z', hz', rz⟩ := f3 j z hz
    exact ⟨[x', y', z'], ⟨x', y', z', rfl, hx', hy', hz'⟩, .cons rx (.cons ry (.cons rz .nil)), by show 3 ≤ sizeLine; decide⟩
def iZ2 (K : PySem.W.Frag) (ta : TA) : TI := fun σ H R => ta σ H fun vs H1 => ∃ q r xs ys, vs = [Sq.v q, Sq.v r] ∧ Sq.has K H1 q xs ∧ Sq.has K H1 r ys ∧ R (zJ2 K q r xs ys) H1
def iZ3 (K : PySem.W.Frag) (ta : TA) : TI := fun σ H R => ta σ H fun vs H1 => ∃ q r u xs ys zs, vs = [Sq.v q, Sq.v r, Sq.v u] ∧ Sq.has K H1 q xs ∧ Sq.has K H1 r ys ∧ Sq.has K H1 u zs ∧ R (zJ3 K q r u xs ys zs) H1
theorem pi_z2 {e e2 : Expr} {ta : TA} (hg : Gl X "zip") (hm : X.mg "zip" = none) (ha : PA X [e, e2] ta) (hn : nst e = true) (hn2 : nst e2 = true) : PI X (.Tuple elts kk tpos) (.Call (.Name "zip" p) [e, e2] [] pos) (iZ2 X.K ta) := by
  refine ⟨fun pins s σ H R I h => ?_⟩
  refine Call_ (ld_blt I hg hm PyProof.Rows.boot_zip (PyProof.Rows.callWith_type1 (thn (ha.run pos pins s σ H _ I h) fun us s1 ⟨vs, H1, I1, r1, q1⟩ => ?_) (star_of hn) (by rw [star_of hn2]; rfl)))
  obtain ⟨q, r, xs, ys, e1, hq, hr, hR⟩ := q1
  subst e1
  obtain ⟨u1, u2, rfl, ru, ru2⟩ := vals2 r1
  obtain ⟨k1, rfl⟩ := Sq.rel ru
  obtain ⟨k2, rfl⟩ := Sq.rel ru2
  obtain ⟨P, B, hP⟩ := Sq.begins I1 hq k1
  obtain ⟨P2, B2, hP2⟩ := Sq.begins I1 hr k2
  have l1 := Sq.lt I1 hq
  have l2 := Sq.lt I1 hr
  refine zip_begins2 B B2 hP hP2 fun h' hz hTI hTO h1 h2 _ hk => wpAny_pyIter_zip hz ?_
  have I2 : Inv X pins σ H1 { s1 with heap := h' } := I1.kept (t' := s1.toks) hk
  have no : ∀ {l : List Addr} {j : Nat}, (∀ b ∈ l, b < s1.heap.objs.size) → s1.heap.objs.size + j ∉ l := fun hl z => absurd (hl _ z) (Nat.not_lt.mpr (Nat.le_add_right _ _))
  refine ⟨_, [s1.heap.objs.size + 4, s1.heap.objs.size + 2, s1.heap.objs.size + 3, s1.heap.objs.size, s1.heap.objs.size + 1], _, _, H1, rfl, I2, turn_z2 (k1 := k1) (k2 := k2) (zip_sep2 l1 l2) (no (j := 0) l1) (no l2), ⟨hz, hTI, ⟨_, _, hTO⟩, Sq.begun h1, Sq.begun h2⟩, fun b hb => ?_, hR⟩
  have hle : s1.heap.objs.size ≤ b := by
    have e' : b = s1.heap.objs.size + 4 ∨ b = s1.heap.objs.size + 2 ∨ b = s1.heap.objs.size + 3 ∨ b = s1.heap.objs.size ∨ b = s1.heap.objs.size + 1 := by simpa using hb
    rcases e' with z | z | z | z | z <;> rw [z] <;> first | exact Nat.le_add_right _ _ | exact Nat.le_refl _
  exact I1.fpOk hle (I1.hok.fresh hle)
theorem pi_z3 {e e2 e3 : Expr} {ta : TA} (hg : Gl X "zip") (hm : X.mg "zip" = none) (ha : PA X [e, e2, e3] ta) (hn : nst e = true) (hn2 : nst e2 = true) (hn3 : nst e3 = true) : PI X (.Tuple elts kk tpos) (.Call (.Name "zip" p) [e, e2, e3] [] pos) (iZ3 X.K ta) := by
  refine ⟨fun pins s σ H R I h => ?_⟩
  refine Call_ (ld_blt I hg hm PyProof.Rows.boot_zip (PyProof.Rows.callWith_type1 (thn (ha.run pos pins s σ H _ I h) fun us s1 ⟨vs, H1, I1, r1, q1⟩ => ?_) (star_of hn) (by rw [star_of hn2, star_of hn3]; rfl)))
  obtain ⟨q, r, u, xs, ys, zs, e1, hq, hr, hu, hR⟩ := q1
  subst e1
  obtain ⟨u1, us, rfl, ru, rr⟩ : ∃ u1 us', us = u1 :: us' ∧ RelV q.v u1 ∧ Vals [r.v, u.v] us' := by
    cases r1 with
    | cons a t => exact ⟨_, _, rfl, a, t⟩
  obtain ⟨u2, u3, rfl, ru2, ru3⟩ := vals2 rr
  obtain ⟨k1, rfl⟩ := Sq.rel ru
  obtain ⟨k2, rfl⟩ := Sq.rel ru2
  obtain ⟨k3, rfl⟩ := Sq.rel ru3
  obtain ⟨P, B, hP⟩ := Sq.begins I1 hq k1
  obtain ⟨P2, B2, hP2⟩ := Sq.begins I1 hr k2
  obtain ⟨P3, B3, hP3⟩ := Sq.begins I1 hu k3
  have l1 := Sq.lt I1 hq
  have l2 := Sq.lt I1 hr
  have l3 := Sq.lt I1 hu
  refine zip_begins3 B B2 B3 hP hP2 hP3 fun h' hz hTI hTO h1 h2 h3 _ hk => wpAny_pyIter_zip hz ?_
  have I2 : Inv X pins σ H1 { s1 with heap := h' } := I1.kept (t' := s1.toks) hk
  have no : ∀ {l : List Addr} {j : Nat}, (∀ b ∈ l, b < s1.heap.objs.size) → s1.heap.objs.size + j ∉ l := fun hl z => absurd (hl _ z) (Nat.not_lt.mpr (Nat.le_add_right _ _))
  refine ⟨_, [s1.heap.objs.size + 5, s1.heap.objs.size + 3, s1.heap.objs.size + 4, s1.heap.objs.size, s1.heap.objs.size + 1, s1.heap.objs.size + 2], _, _, H1, rfl, I2, turn_z3 (k1 := k1) (k2 := k2) (k3 := k3) (zip_sep3 l1 l2 l3) (no (j := 0) l1) (no l2) (no l3), ⟨hz, hTI, ⟨_, _, _, hTO⟩, Sq.begun h1, Sq.begun h2, Sq.begun h3⟩, fun b hb => ?_, hR⟩
  have hle : s1.heap.objs.size ≤ b := by
    have e' : b = s1.heap.objs.size + 5 ∨ b = s1.heap.objs.size + 3 ∨ b = s1.heap.objs.size + 4 ∨ b = s1.heap.objs.size ∨ b = s1.heap.objs.size + 1 ∨ b = s1.heap.objs.size + 2 := by simpa using hb
    rcases e' with z | z | z | z | z | z <;> rw [z] <;> first | exact Nat.le_add_right _ _ | exact Nat.le_refl _
  exact I1.fpOk hle (I1.hok.fresh hle)
end
end Ev
end

section
set_option maxHeartbeats 0
namespace Ev
open PySem PySem.Spec PyProof.Rows L2

/-- J walks ds; ls: the names whose lists are looked at meanwhile -/
structure Wk (M : Mx) (ρ : Rho) (σ : L2.St) (F H : Hp) (J : It) (ds : List D) (ls : List Nat) (has : Hp → Prop) (A : List Addr) : Prop where
  now : has H
  keep : ∀ H1 H2, has H1 → (∀ a ∈ A, ∀ o, H1 a = some o → H2 a = some o) → has H2
  adr : ∀ a ∈ A, ∀ k c, ρ[k]? = some (some c) → isOwn c = true → σ[k]? = some (some (.ref a)) → k ∈ ls
  there : ∀ a ∈ A, H a ≠ none
  go : ∀ i H1, has H1 → i < ds.length → J.go i H1
  stop : ∀ H1, has H1 → J.stop ds.length H1
  yld : ∀ i H1 v H2 F1, has H1 → i < ds.length → le F F1 → le F1 H1 → J.yld i H1 v H2 → ∃ d F2, ds[i]? = some d ∧ le F1 F2 ∧ le H1 H2 ∧ le F2 H2 ∧ (∀ a, H1 a ≠ none → F2 a = F1 a) ∧ RepF M F2 d v
def PWk (M : Mx) (σ : L2.St) : Pr (List D × List Nat) It := fun _ ρ' F' H' r J => ∃ has A, Wk M ρ' σ F' H' J r.1 r.2 has A
theorem bk_PWk {M : Mx} {σ : L2.St} : Bk (PWk M σ) := fun _ _ _ _ _ _ _ _ h => h
section
variable {M : Mx} {ρ : Rho} {σ : L2.St} {F H : Hp}
theorem itemsOf_cases {d : D} {l : List D} (h : itemsOf d = some l) : d = .lst l ∨ d = .tup l ∨ ∃ s, d = .str s ∧ l = s.cps.toList.map fun c => .str ⟨#[c]⟩ := by
  cases d <;> simp [itemsOf] at h
  · exact .inr (.inr ⟨_, rfl, h.symm⟩)
  · exact .inr (.inl (by rw [h]))
  · exact .inl (by rw [h])
theorem RepsF.chars : ∀ l : List Nat, RepsF M F (l.map fun c => .str ⟨#[c]⟩) (l.map fun c => V.str ⟨#[c]⟩)
  | [] => rfl
  | c :: l => ⟨_, _, rfl, rfl, RepsF.chars l⟩
/-- how a source lies -/
structure Src (M : Mx) (ρ : Rho) (σ : L2.St) (F H : Hp) (ls : List Nat) (v : V) (l : List D) (q : Sq) (vs : List V) (A : List Addr) : Prop where
  v : v = q.v
  has : q.has M.K H vs
  reps : RepsF M F l vs
  keep : ∀ H1 H2, q.has M.K H1 vs → (∀ a ∈ A, ∀ o, H1 a = some o → H2 a = some o) → q.has M.K H2 vs
  adr : ∀ a ∈ A, ∀ k c, ρ[k]? = some (some c) → isOwn c = true → σ[k]? = some (some (.ref a)) → k ∈ ls
  there : ∀ a ∈ A, H a ≠ none
theorem Rd.at {H1 H2 : Hp} {a : Addr} {u : HO} (r : Rd H1 a u) (k : ∀ b ∈ [a], ∀ o, H1 b = some o → H2 b = some o) : Rd H2 a u := by
  rcases r with r | ⟨o, r⟩
  · exact .inl (k a (by simp) _ r)
  · exact .inr ⟨o, k a (by simp) _ r⟩
theorem Rd.ne {H1 : Hp} {a : Addr} {u : HO} (r : Rd H1 a u) : H1 a ≠ none := by
  rcases r with r | ⟨o, r⟩ <;> rw [r] <;> simp
theorem src_fz {ls : List Nat} {v : V} {d : D} {l : List D} (R : Rl M ρ σ F H) (hr : RepF M F d v) (hl : itemsOf d = some l) : ∃ q vs A, Src M ρ σ F H ls v l q vs A := by
  have no : ∀ {a : Addr} {u : HO}, Rd F a u → ∀ b ∈ [a], ∀ k c, ρ[k]? = some (some c) → isOwn c = true → σ[k]? = some (some (.ref b)) → k ∈ ls := fun {a u} r b hb k c h1 h2 h3 => by
    obtain rfl : b = a := by simpa using hb
    obtain ⟨_, _, n⟩ := R.there ⟨k, c, h1, h2, h3⟩
    exact absurd n (Rd.ne r)
  rcases itemsOf_cases hl with rfl | rfl | ⟨x, rfl, rfl⟩
  · obtain ⟨a, vs, rfl, k, r⟩ := hr
    rcases k with k | k
    · exact ⟨.l a, vs, [a], rfl, .inl (Rd.le R.le k), r, fun H1 H2 h kp => h.elim (fun h => .inl (Rd.at h kp)) .inr, no k, fun b hb => by
        obtain rfl : b = a := by simpa using hb
        exact Rd.ne (Rd.le R.le k)⟩
    · exact ⟨.l a, vs, [], rfl, .inr k, r, fun H1 H2 h kp => .inr k, fun b hb => by simp at hb, fun b hb => by simp at hb⟩
  · obtain ⟨a, vs, rfl, k, r⟩ := hr
    rcases k with k | k
    · exact ⟨.t a, vs, [a], rfl, .inl (Rd.le R.le k), r, fun H1 H2 h kp => h.elim (fun h => .inl (Rd.at h kp)) .inr, no k, fun b hb => by
        obtain rfl : b = a := by simpa using hb
        exact Rd.ne (Rd.le R.le k)⟩
    · exact ⟨.t a, vs, [], rfl, .inr k, r, fun H1 H2 h kp => .inr k, fun b hb => by simp at hb, fun b hb => by simp at hb⟩
  · obtain rfl : v = .str x := hr
    exact ⟨.s x, _, [], rfl, rfl, RepsF.chars _, fun H1 H2 h kp => h, fun b hb => by simp at hb, fun b hb => by simp at hb⟩
theorem src_own {ls : List Nat} {a : Addr} {d : D} {l : List D} {o : HO} (e : H a = some o) (r : Hold M F d o) (hl : itemsOf d = some l) (ha : ∀ k c, ρ[k]? = some (some c) → isOwn c = true → σ[k]? = some (some (.ref a)) → k ∈ ls) : ∃ q vs A, Src M ρ σ F H ls (.ref a) l q vs A := by
  rcases itemsOf_cases hl with rfl | rfl | ⟨x, rfl, rfl⟩
  · obtain ⟨vs, rfl, r⟩ := r
    exact ⟨.l a, vs, [a], rfl, SqL.of e, r, fun H1 H2 h kp => h.elim (fun h => .inl (Rd.at h kp)) .inr, fun b hb => by
      obtain rfl : b = a := by simpa using hb
      exact ha, fun b hb => by
      obtain rfl : b = a := by simpa using hb
      rw [e]; simp⟩
  · exact r.elim
  · exact r.elim
theorem src_of {o : Od} {v : V} {d : D} {l : List D} (R : Rl M ρ σ F H) (p : Pd M σ ρ F H o v) (e : o.d ρ = some d) (hl : itemsOf d = some l) : ∃ q vs A, Src M ρ σ F H (odLook [o]) v l q vs A := by
  cases o with
  | c c =>
    have hr := p.2.1
    cases e
    cases c with
    | fz dd => exact src_fz R hr hl
    | vw dd => exact p.1.elim
    | lst ds =>
      obtain ⟨a, o, rfl, n, q, r⟩ := hr
      exact src_own q r hl fun k c h1 h2 h3 => absurd ⟨k, c, h1, h2, h3⟩ (p.2.2 a ⟨rfl, rfl⟩).1
    | dic ks ds =>
      obtain ⟨a, o, rfl, n, q, r⟩ := hr
      exact src_own q r hl fun k c h1 h2 h3 => absurd ⟨k, c, h1, h2, h3⟩ (p.2.2 a ⟨rfl, rfl⟩).1
  | at_ i =>
    simp only [Od.d] at e
    split at e
    · rename_i x hx
      cases e
      obtain ⟨v', ev, r⟩ := R.cell i x hx
      rw [show σ[i]? = some (some v) from p] at ev
      cases ev
      cases x with
      | fz dd => exact src_fz R r hl
      | vw dd =>
        obtain ⟨a, o, rfl, q, r, n⟩ := r
        exact src_own q r hl fun k c h1 h2 h3 => absurd ⟨k, c, h1, h2, h3⟩ (R.vw i _ a hx p)
      | lst ds =>
        obtain ⟨a, o, rfl, n, q, r⟩ := r
        exact src_own q r hl fun k c h1 h2 h3 => by
          rw [R.dis k i c _ a h1 hx h2 rfl h3 p]
          simp [odLook]
      | dic ks ds =>
        obtain ⟨a, o, rfl, n, q, r⟩ := r
        exact src_own q r hl fun k c h1 h2 h3 => by
          rw [R.dis k i c _ a h1 hx h2 rfl h3 p]
          simp [odLook]
    · cases e
theorem Src.sub {ls ls' : List Nat} {v : V} {l : List D} {q : Sq} {vs : List V} {A : List Addr} (s : Src M ρ σ F H ls v l q vs A) (h : ∀ i ∈ ls, i ∈ ls') : Src M ρ σ F H ls' v l q vs A :=
  ⟨s.v, s.has, s.reps, s.keep, fun a ha k c h1 h2 h3 => h k (s.adr a ha k c h1 h2 h3), s.there⟩
/-- the items one by one -/
theorem Src.wk {ls : List Nat} {v : V} {l : List D} {q : Sq} {vs : List V} {A : List Addr} (s : Src M ρ σ F H ls v l q vs A) : Wk M ρ σ F H (ySq M.K q vs) l ls (fun H => q.has M.K H vs) A where
  now := s.has
  keep := s.keep
  adr := s.adr
  there := s.there
  go := fun i H1 h hi => ⟨h, by rw [← s.reps.len]; exact hi⟩
  stop := fun H1 h => ⟨h, s.reps.len⟩
  yld := fun i H1 v H2 F1 h hi l1 l2 y => by
    obtain ⟨rfl, e⟩ := y
    obtain ⟨d, hd, r⟩ := s.reps.getV e
    exact ⟨d, F1, hd, Ev.le.refl _, Ev.le.refl _, l2, fun _ _ => rfl, RepF.mono l1 _ _ r⟩
/-- new tuples one by one -/
theorem wk_T {ls : List Nat} {has : Hp → Prop} {A : List Addr} {ds : List D} {n : Nat} {ys : Nat → List V → Prop} (hn : n = ds.length) (now : has H) (keep : ∀ H1 H2, has H1 → (∀ a ∈ A, ∀ o, H1 a = some o → H2 a = some o) → has H2)
    (adr : ∀ a ∈ A, ∀ k c, ρ[k]? = some (some c) → isOwn c = true → σ[k]? = some (some (.ref a)) → k ∈ ls) (there : ∀ a ∈ A, H a ≠ none) (hy : ∀ i vs, ys i vs → ∃ dd, ds[i]? = some (.tup dd) ∧ RepsF M F dd vs) : Wk M ρ σ F H (ItS has n (yT ys)) ds ls has A where
  now := now
  keep := keep
  adr := adr
  there := there
  go := fun i H1 h hi => ⟨h, by rw [hn]; exact hi⟩
  stop := fun H1 h => ⟨h, hn.symm⟩
  yld := fun i H1 v H2 F1 h hi l1 l2 y => by
    obtain ⟨T, vs, rfl, hT, rfl, y⟩ := y
    obtain ⟨dd, hd, r⟩ := hy i vs y
    have hF := Ev.le.none l2 hT
    exact ⟨_, L2.upd F1 T (.tup vs), hd, Ev.le.upd hF, Ev.le.upd hT, Ev.le.upd2 l2, fun a ha => upd_ne fun z => ha (z ▸ hT), T, vs, rfl, SqT.of upd_same, RepsF.mono (l1.trans (Ev.le.upd hF)) _ _ r⟩
theorem enumL_len : ∀ (k : Int) (l : List D), (enumL k l).length = l.length
  | _, [] => rfl
  | k, d :: l => by rw [enumL, List.length_cons, List.length_cons, enumL_len]
theorem enumL_get : ∀ (k : Int) (l : List D) (i : Nat), (enumL k l)[i]? = l[i]?.map fun d => .tup [.int (k + (i : Nat)), d]
  | _, [], _ => by simp [enumL]
  | k, d :: l, 0 => by simp [enumL]
  | k, d :: l, i + 1 => by
    rw [enumL, List.getElem?_cons_succ, List.getElem?_cons_succ, enumL_get]
    congr 1
    funext d
    congr 3
    omega
theorem zipL_len : ∀ (l m : List D), (zipL l m).length = min l.length m.length
  | [], _ => by simp [zipL]
  | _ :: _, [] => by simp [zipL]
  | a :: l, b :: m => by rw [zipL, List.length_cons, zipL_len, List.length_cons, List.length_cons]; omega
theorem zipL_get : ∀ (l m : List D) (i : Nat) (a b : D), l[i]? = some a → m[i]? = some b → (zipL l m)[i]? = some (.tup [a, b])
  | [], _, _, _, _, h, _ => by simp at h
  | _ :: _, [], _, _, _, _, h => by simp at h
  | a :: l, b :: m, 0, _, _, h1, h2 => by simp at h1 h2; simp [zipL, h1, h2]
  | a :: l, b :: m, i + 1, x, y, h1, h2 => by rw [zipL, List.getElem?_cons_succ]; exact zipL_get l m i x y (by simpa using h1) (by simpa using h2)
theorem zip3_len : ∀ (l m n : List D), (zip3 l m n).length = min (min l.length m.length) n.length
  | [], _, _ => by simp [zip3]
  | _ :: _, [], _ => by simp [zip3]
  | _ :: _, _ :: _, [] => by simp [zip3]
  | a :: l, b :: m, c :: n => by rw [zip3, List.length_cons, zip3_len, List.length_cons, List.length_cons, List.length_cons]; omega
theorem zip3_get : ∀ (l m n : List D) (i : Nat) (a b c : D), l[i]? = some a → m[i]? = some b → n[i]? = some c → (zip3 l m n)[i]? = some (.tup [a, b, c])
  | [], _, _, _, _, _, _, h, _, _ => by simp at h
  | _ :: _, [], _, _, _, _, _, _, h, _ => by simp at h
  | _ :: _, _ :: _, [], _, _, _, _, _, _, h => by simp at h
  | a :: l, b :: m, c :: n, 0, _, _, _, h1, h2, h3 => by simp at h1 h2 h3; simp [zip3, h1, h2, h3]
  | a :: l, b :: m, c :: n, i + 1, x, y, z, h1, h2, h3 => by rw [zip3, List.getElem?_cons_succ]; exact zip3_get l m n i x y z (by simpa using h1) (by simpa using h2) (by simpa using h3)
end
section
variable {g : G} {cl : Nat → List Cell → Option (R Cell)} {M : Mx} {W : L2.WX} {X : Cx} {tg : Expr}
def tI (g : G) (cl : Nat → List Cell → Option (R Cell)) (M : Mx) (W : L2.WX) (it : Iter) : TI := fun σ H R' => ∃ ρ F, Rl M ρ σ F H ∧ Post M W σ (sta ρ σ F H) (PWk M σ) R' (evI g cl it ρ)
theorem pi_imp {e : Expr} {t t' : TI} (h : PI X tg e t) (i : ∀ σ H Q, t' σ H Q → t σ H Q) : PI X tg e t' := ⟨fun pins s σ H Q I q => h.run pins s σ H Q I (i σ H Q q)⟩
theorem si_of (hK : M.K = X.K) {e : Expr} {m : Ex} (he : PE X e (tO g cl M W m)) : PI X tg e (tI g cl M W (.of m)) := by
  refine pi_imp (pi_sq he) fun σ H R' ⟨ρ, F, R, p⟩ => ⟨ρ, F, R, ?_⟩
  simp only [evI] at p
  refine Post.bnd p bk_PWk fun o ρ1 v F1 H1 _ R1 s1 pd p => ?_
  split at p
  · rename_i l hl
    obtain ⟨d, hd, hl⟩ := Option.bind_eq_some_iff.mp hl
    obtain ⟨q, vs, A, s⟩ := src_of R1 pd hd hl
    refine ⟨q, vs, s.v, by rw [← hK]; exact s.has, ?_⟩
    rw [← hK]
    exact p.ok R1 (Stp.refl _ _ _) ⟨_, _, s.wk⟩
  · exact p.elim
theorem en_wk {ρ : Rho} {σ : L2.St} {F H : Hp} {ls : List Nat} {v : V} {l : List D} {q : Sq} {vs : List V} {A : List Addr} (k : Int) (s : Src M ρ σ F H ls v l q vs A) : Wk M ρ σ F H (enJ M.K k q vs) (enumL k l) ls (fun H => q.has M.K H vs) A := by
  refine wk_T (by rw [enumL_len, s.reps.len]) s.has s.keep s.adr s.there fun i ws ⟨x, e, hx⟩ => ?_
  subst e
  obtain ⟨d, hd, r⟩ := s.reps.getV hx
  exact ⟨[.int (k + (i : Nat)), d], by rw [enumL_get, hd]; rfl, .cons (show RepF M F (.int _) (.int _) from rfl) (.cons r .nil)⟩
theorem si_en1 (hK : M.K = X.K) {elts : List Expr} {kk : Nat} {tpos p pos : Pos} {e : Expr} {m : Ex} (hg : Gl X "enumerate") (hm : X.mg "enumerate" = none) (hn : nst e = true) (he : PE X e (tO g cl M W m)) :
    PI X (.Tuple elts kk tpos) (.Call (.Name "enumerate" p) [e] [] pos) (tI g cl M W (.enum m 0)) := by
  refine pi_imp (pi_en1 hg hm (pa_cons he pa_nil (star_of hn)) hn) fun σ H R' ⟨ρ, F, R, p⟩ => ⟨ρ, F, R, ?_⟩
  simp only [evI] at p
  refine Post.bnd p bk_PWk fun o ρ1 v F1 H1 _ R1 s1 pd p => ?_
  split at p
  · rename_i l hl
    obtain ⟨d, hd, hl⟩ := Option.bind_eq_some_iff.mp hl
    obtain ⟨q, vs, A, s⟩ := src_of R1 pd hd hl
    refine ⟨q, vs, by rw [s.v], by rw [← hK]; exact s.has, ?_⟩
    rw [← hK]
    exact p.ok R1 (Stp.refl _ _ _) ⟨_, _, en_wk 0 s⟩
  · exact p.elim
theorem si_en2 (hK : M.K = X.K) {elts : List Expr} {kk : Nat} {tpos p pos : Pos} {e e2 : Expr} {m : Ex} {k : Int} (hg : Gl X "enumerate") (hm : X.mg "enumerate" = none) (hn : nst e = true) (hn2 : nst e2 = true) (hk1 : -(2 ^ 63) ≤ k) (hk2 : k < 2 ^ 63) (he : PE X e (tO g cl M W m)) (he2 : PE X e2 (tC (.int k))) :
    PI X (.Tuple elts kk tpos) (.Call (.Name "enumerate" p) [e, e2] [] pos) (tI g cl M W (.enum m k)) := by
  refine pi_imp (pi_en2 hg hm (pa_cons he (pa_cons he2 pa_nil (star_of hn2)) (star_of hn)) hn hn2) fun σ H R' ⟨ρ, F, R, p⟩ => ⟨ρ, F, R, ?_⟩
  simp only [evI] at p
  refine Post.bnd p bk_PWk fun o ρ1 v F1 H1 _ R1 s1 pd p => ?_
  split at p
  · rename_i l hl
    obtain ⟨d, hd, hl⟩ := Option.bind_eq_some_iff.mp hl
    obtain ⟨q, vs, A, s⟩ := src_of R1 pd hd hl
    refine ⟨q, vs, k, by rw [s.v], hk1, hk2, by rw [← hK]; exact s.has, ?_⟩
    rw [← hK]
    exact p.ok R1 (Stp.refl _ _ _) ⟨_, _, en_wk k s⟩
  · exact p.elim
theorem rng_wk {ρ : Rho} {σ : L2.St} {F H : Hp} {lo : Int} {n : Nat} : Wk M ρ σ F H (Itr lo n) (rngI lo n) [] (fun _ => True) [] where
  now := trivial
  keep := fun _ _ _ _ => trivial
  adr := fun a h => by simp at h
  there := fun a h => by simp at h
  go := fun i H1 _ hi => by show i < n; simpa [rngI] using hi
  stop := fun H1 _ => by show n ≤ _; simp [rngI]
  yld := fun i H1 v H2 F1 _ hi l1 l2 y => by
    obtain ⟨rfl, rfl⟩ := y
    have hi : i < n := by simpa [rngI] using hi
    exact ⟨.int (lo + i), F1, by simp [rngI, hi], Ev.le.refl _, Ev.le.refl _, l2, fun _ _ => rfl, rfl⟩
def fzd (c : Cell) (ρ : Rho) : Option (R D) := some (.ok c.d ρ)
theorem evD_one {m : Ex} {ρ : Rho} : evD g cl (.cons false m .nil) ρ = bnd (bnd (evE g cl m ρ) fun c ρ => some (.ok c.d ρ)) fun d ρ => some (.ok [d] ρ) := by
  rw [bnd_assoc]; simp only [evD]; rfl
theorem evD_two {m m2 : Ex} {ρ : Rho} : evD g cl (.cons false m (.cons false m2 .nil)) ρ = bnd (bnd (evE g cl m ρ) fun c ρ => some (.ok c.d ρ)) fun d ρ => bnd (bnd (evE g cl m2 ρ) fun c ρ => some (.ok c.d ρ)) fun e ρ => some (.ok [d, e] ρ) := by
  rw [bnd_assoc]
  have e : evD g cl (.cons false m (.cons false m2 .nil)) ρ = bnd (evE g cl m ρ) fun c ρ => bnd (evD g cl (.cons false m2 .nil) ρ) fun ds ρ => some (.ok (c.d :: ds) ρ) := by rw [evD]
  rw [e]
  congr 1
  funext c ρ
  rw [evD_one, bnd_assoc, bnd_assoc]
  show _ = bnd (bnd (evE g cl m2 ρ) fun c ρ => some (.ok c.d ρ)) fun e ρ => some (.ok [c.d, e] ρ)
  rw [bnd_assoc]; rfl
theorem si_rng1 {p pos : Pos} {e : Expr} {m : Ex} (hg : Gl X "range") (hm : X.mg "range" = none) (hn : nst e = true) (he : PE X e (tE g cl M W m)) : PI X tg (.Call (.Name "range" p) [e] [] pos) (tI g cl M W (.range (.cons false m .nil))) := by
  refine pi_imp (pi_range1 hg hm (pa_cons (sf_of he) pa_nil (star_of hn)) (star_of hn)) fun σ H R' ⟨ρ, F, R, p⟩ => ⟨ρ, F, R, ?_⟩
  simp only [evI] at p
  rw [evD_one, bnd_assoc] at p
  refine Post.bnd p bk_PWk fun d ρ1 v F1 H1 _ R1 s1 pd p => ?_
  simp only [bnd] at p
  obtain ⟨l, hl, p⟩ := p.map
  unfold rangeD at hl
  split at hl
  · rename_i j hj
    cases hj
    split at hl
    · rename_i hj
      cases hl
      obtain rfl : v = .int j := pd
      simp only [okR, Bool.and_eq_true, decide_eq_true_eq] at hj
      exact ⟨j, rfl, hj.1, hj.2, p.ok R1 (Stp.refl _ _ _) ⟨_, _, rng_wk⟩⟩
    · cases hl
  · rename_i h; cases h
  · cases hl
theorem si_rng2 {p pos : Pos} {e e2 : Expr} {m m2 : Ex} (hg : Gl X "range") (hm : X.mg "range" = none) (hn : nst e = true) (hn2 : nst e2 = true) (he : PE X e (tE g cl M W m)) (he2 : PE X e2 (tE g cl M W m2)) :
    PI X tg (.Call (.Name "range" p) [e, e2] [] pos) (tI g cl M W (.range (.cons false m (.cons false m2 .nil)))) := by
  refine pi_imp (pi_range2 hg hm (pa_cons (sf_of he) (pa_cons (sf_of he2) pa_nil (star_of hn2)) (star_of hn)) (by rw [star_of hn, star_of hn2]; rfl) (star_of hn2)) fun σ H R' ⟨ρ, F, R, p⟩ => ⟨ρ, F, R, ?_⟩
  simp only [evI] at p
  rw [evD_two, bnd_assoc] at p
  refine Post.bnd p bk_PWk fun d ρ1 v F1 H1 _ R1 s1 pd p => ⟨ρ1, F1, R1, ?_⟩
  rw [bnd_assoc] at p
  refine Post.bnd p bk_PWk fun d2 ρ2 v2 F2 H2 _ R2 s2 pd2 p => ?_
  simp only [bnd] at p
  obtain ⟨l, hl, p⟩ := p.map
  unfold rangeD at hl
  split at hl
  · rename_i h; cases h
  · rename_i i j h
    cases h
    split at hl
    · rename_i hj
      cases hl
      obtain rfl : v = .int i := RepF.mono s2.mono _ _ pd
      obtain rfl : v2 = .int j := pd2
      simp only [okR, Bool.and_eq_true, decide_eq_true_eq] at hj
      exact ⟨i, j, rfl, ⟨hj.1.1, hj.1.2, hj.2.1, hj.2.2⟩, p.ok R2 (Stp.refl _ _ _) ⟨_, _, rng_wk⟩⟩
    · cases hl
  · cases hl
theorem ods2 {ρ : Rho} {a b : Od} {ds : List D} (h : odsD ρ [a, b] = some ds) : ∃ d e, a.d ρ = some d ∧ b.d ρ = some e ∧ ds = [d, e] := by
  simp only [odsD] at h
  cases ha : a.d ρ with
  | none => rw [ha] at h; cases h
  | some d =>
    cases hb : b.d ρ with
    | none => rw [ha, hb] at h; cases h
    | some e => rw [ha, hb] at h; cases h; exact ⟨d, e, rfl, rfl, rfl⟩
theorem ods3 {ρ : Rho} {a b c : Od} {ds : List D} (h : odsD ρ [a, b, c] = some ds) : ∃ d e f, a.d ρ = some d ∧ b.d ρ = some e ∧ c.d ρ = some f ∧ ds = [d, e, f] := by
  simp only [odsD] at h
  cases ha : a.d ρ with
  | none => rw [ha] at h; cases h
  | some d =>
    cases hb : b.d ρ with
    | none => rw [ha, hb] at h; cases h
    | some e =>
      cases hc : c.d ρ with
      | none => rw [ha, hb, hc] at h; cases h
      | some f => rw [ha, hb, hc] at h; cases h; exact ⟨d, e, f, rfl, rfl, rfl, rfl⟩
theorem evO_one {b : Bool} {m : Ex} {ρ : Rho} : evO g cl (.cons b m .nil) ρ = bnd (opd m (evE g cl m ρ) ρ) fun x ρ => some (.ok [x] ρ) := by
  simp only [evO]; rfl
theorem evO_cons {b : Bool} {m : Ex} {ms : Es} {ρ : Rho} : evO g cl (.cons b m ms) ρ = bnd (opd m (evE g cl m ρ) ρ) fun x ρ => bnd (evO g cl ms ρ) fun xs ρ => some (.ok (x :: xs) ρ) := by
  rw [evO]
theorem look_l {o : Od} {os : List Od} : ∀ i ∈ odLook [o], i ∈ odLook (o :: os) := fun i hi => by
  cases o <;> simp [odLook] at hi ⊢; exact .inl hi
theorem look_r {o : Od} {os : List Od} {i : Nat} (h : i ∈ odLook os) : i ∈ odLook (o :: os) := by
  cases o <;> simp [odLook, h]
theorem si_zip2 (hK : M.K = X.K) {elts : List Expr} {kk : Nat} {tpos p pos : Pos} {e e2 : Expr} {b b2 : Bool} {m m2 : Ex} (hg : Gl X "zip") (hm : X.mg "zip" = none) (hn : nst e = true) (hn2 : nst e2 = true) (he : PE X e (tO g cl M W m)) (he2 : PE X e2 (tO g cl M W m2)) :
    PI X (.Tuple elts kk tpos) (.Call (.Name "zip" p) [e, e2] [] pos) (tI g cl M W (.zip (.cons b m (.cons b2 m2 .nil)))) := by
  refine pi_imp (pi_z2 hg hm (pa_cons he (pa_cons he2 pa_nil (star_of hn2)) (star_of hn)) hn hn2) fun σ H R' ⟨ρ, F, R, p⟩ => ⟨ρ, F, R, ?_⟩
  simp only [evI] at p
  rw [evO_cons, bnd_assoc] at p
  refine Post.bnd p bk_PWk fun o1 ρ1 v1 F1 H1 _ R1 s1 p1 p => ⟨ρ1, F1, R1, ?_⟩
  rw [evO_one, bnd_assoc, bnd_assoc] at p
  refine Post.bnd p bk_PWk fun o2 ρ2 v2 F2 H2 _ R2 s2 p2 p => ?_
  have p1 := p1.stp R1 s2
  simp only [bnd] at p
  split at p
  · rename_i l hl
    obtain ⟨ds, hds, hl⟩ := Option.bind_eq_some_iff.mp hl
    obtain ⟨d1, d2, h1, h2, rfl⟩ := ods2 hds
    simp only [zipD] at hl
    split at hl
    · rename_i x y hx hy
      cases hl
      obtain ⟨q, xs, A, s⟩ := src_of R2 p1 h1 hx
      obtain ⟨r, ys, B, t⟩ := src_of R2 p2 h2 hy
      have s := s.sub (ls' := odLook [o1, o2]) look_l
      have t := t.sub (ls' := odLook [o1, o2]) fun i hi => look_r hi
      refine ⟨q, r, xs, ys, by rw [s.v, t.v], by rw [← hK]; exact s.has, by rw [← hK]; exact t.has, ?_⟩
      rw [← hK]
      refine p.ok R2 (Stp.refl _ _ _) ⟨_, A ++ B, wk_T (by rw [zipL_len, s.reps.len, t.reps.len]) ⟨s.has, t.has⟩ (fun H1 H2 h kp => ⟨s.keep H1 H2 h.1 fun a ha => kp a (by simp [ha]), t.keep H1 H2 h.2 fun a ha => kp a (by simp [ha])⟩) (fun a ha => ?_) (fun a ha => ?_) fun i ws ⟨x, y, e, hx, hy⟩ => ?_⟩
      · exact (List.mem_append.mp ha).elim (s.adr a) (t.adr a)
      · exact (List.mem_append.mp ha).elim (s.there a) (t.there a)
      · subst e
        obtain ⟨d, hd, r⟩ := s.reps.getV hx
        obtain ⟨d', hd', r'⟩ := t.reps.getV hy
        exact ⟨_, zipL_get _ _ _ _ _ hd hd', .cons r (.cons r' .nil)⟩
    · cases hl
  · exact False.elim p
theorem si_zip3 (hK : M.K = X.K) {elts : List Expr} {kk : Nat} {tpos p pos : Pos} {e e2 e3 : Expr} {b b2 b3 : Bool} {m m2 m3 : Ex} (hg : Gl X "zip") (hm : X.mg "zip" = none) (hn : nst e = true) (hn2 : nst e2 = true) (hn3 : nst e3 = true) (he : PE X e (tO g cl M W m)) (he2 : PE X e2 (tO g cl M W m2))
    (he3 : PE X e3 (tO g cl M W m3)) : PI X (.Tuple elts kk tpos) (.Call (.Name "zip" p) [e, e2, e3] [] pos) (tI g cl M W (.zip (.cons b m (.cons b2 m2 (.cons b3 m3 .nil))))) := by
  refine pi_imp (pi_z3 hg hm (pa_cons he (pa_cons he2 (pa_cons he3 pa_nil (star_of hn3)) (star_of hn2)) (star_of hn)) hn hn2 hn3) fun σ H R' ⟨ρ, F, R, p⟩ => ⟨ρ, F, R, ?_⟩
  simp only [evI] at p
  rw [evO_cons, bnd_assoc] at p
  refine Post.bnd p bk_PWk fun o1 ρ1 v1 F1 H1 _ R1 s1 p1 p => ⟨ρ1, F1, R1, ?_⟩
  rw [evO_cons, bnd_assoc, bnd_assoc] at p
  refine Post.bnd p bk_PWk fun o2 ρ2 v2 F2 H2 _ R2 s2 p2 p => ⟨ρ2, F2, R2, ?_⟩
  rw [evO_one, bnd_assoc, bnd_assoc] at p
  refine Post.bnd p bk_PWk fun o3 ρ3 v3 F3 H3 _ R3 s3 p3 p => ?_
  have p1 := (p1.stp R1 s2).stp R2 s3
  have p2 := p2.stp R2 s3
  simp only [bnd] at p
  split at p
  · rename_i l hl
    obtain ⟨ds, hds, hl⟩ := Option.bind_eq_some_iff.mp hl
    obtain ⟨d1, d2, d3, h1, h2, h3, rfl⟩ := ods3 hds
    simp only [zipD] at hl
    split at hl
    · rename_i x y z hx hy hz
      cases hl
      obtain ⟨q, xs, A, s⟩ := src_of R3 p1 h1 hx
      obtain ⟨r, ys, B, t⟩ := src_of R3 p2 h2 hy
      obtain ⟨u, zs, C, k⟩ := src_of R3 p3 h3 hz
      have s := s.sub (ls' := odLook [o1, o2, o3]) look_l
      have t := t.sub (ls' := odLook [o1, o2, o3]) fun i hi => look_r (look_l i hi)
      have k := k.sub (ls' := odLook [o1, o2, o3]) fun i hi => look_r (look_r hi)
      refine ⟨q, r, u, xs, ys, zs, by rw [s.v, t.v, k.v], by rw [← hK]; exact s.has, by rw [← hK]; exact t.has, by rw [← hK]; exact k.has, ?_⟩
      rw [← hK]
      refine p.ok R3 (Stp.refl _ _ _) ⟨_, A ++ (B ++ C), wk_T (by rw [zip3_len, s.reps.len, t.reps.len, k.reps.len]) ⟨s.has, t.has, k.has⟩
        (fun H1 H2 h kp => ⟨s.keep H1 H2 h.1 fun a ha => kp a (by simp [ha]), t.keep H1 H2 h.2.1 fun a ha => kp a (by simp [ha]), k.keep H1 H2 h.2.2 fun a ha => kp a (by simp [ha])⟩) (fun a ha => ?_) (fun a ha => ?_) fun i ws ⟨x, y, z, e, hx, hy, hz⟩ => ?_⟩
      · exact (List.mem_append.mp ha).elim (s.adr a) fun ha => (List.mem_append.mp ha).elim (t.adr a) (k.adr a)
      · exact (List.mem_append.mp ha).elim (s.there a) fun ha => (List.mem_append.mp ha).elim (t.there a) (k.there a)
      · subst e
        obtain ⟨d, hd, r⟩ := s.reps.getV hx
        obtain ⟨d', hd', r'⟩ := t.reps.getV hy
        obtain ⟨d2, hd2, r2⟩ := k.reps.getV hz
        exact ⟨_, zip3_get _ _ _ _ _ _ _ hd hd' hd2, .cons r (.cons r' (.cons r2 .nil))⟩
    · cases hl
  · exact False.elim p
end
end Ev
end

section
set_option maxHeartbeats 0
namespace Ev
open PySem PySem.Spec PyProof.Rows L2

section
variable {M : Mx} {ρ ρ' : Rho} {σ σ' : L2.St} {F H : Hp}
/-- fewer names -/
theorem Rl.less (R : Rl M ρ σ F H) (hl : ρ'.length = σ'.length) (h : ∀ (i : Nat) (c : Cell), ρ'[i]? = some (some c) → ρ[i]? = some (some c) ∧ σ'[i]? = σ[i]?) : Rl M ρ' σ' F H where
  len := hl
  le := R.le
  cell := fun i c e => by
    obtain ⟨e1, e2⟩ := h i c e
    rw [e2]; exact R.cell i c e1
  dis := fun i j ci cj a e1 e2 o1 o2 s1 s2 => by
    obtain ⟨f1, g1⟩ := h i ci e1
    obtain ⟨f2, g2⟩ := h j cj e2
    exact R.dis i j ci cj a f1 f2 o1 o2 (g1 ▸ s1) (g2 ▸ s2)
  vw := fun i d a e s z => by
    obtain ⟨f, g⟩ := h i _ e
    obtain ⟨j, c, e1, o, s1⟩ := z
    obtain ⟨f1, g1⟩ := h j c e1
    exact R.vw i d a f (g ▸ s) ⟨j, c, f1, o, g1 ▸ s1⟩
theorem ow_less (h : ∀ (i : Nat) (c : Cell), ρ'[i]? = some (some c) → ρ[i]? = some (some c) ∧ σ'[i]? = σ[i]?) {a : Addr} (z : Ow ρ' σ' a) : Ow ρ σ a := by
  obtain ⟨j, c, e, o, s⟩ := z
  obtain ⟨f, g⟩ := h j c e
  exact ⟨j, c, f, o, g ▸ s⟩
/-- a name gets a new cell -/
theorem Rl.put1 (R : Rl M ρ σ F H) {i : Nat} {c : Cell} {v : V} (hn : nv c) (r : RepC M F H c v) (ho : ∀ a, owns c v a → ¬ Ow ρ σ a ∧ ¬ Nw ρ σ a) :
    Rl M (ρ.set i (some c)) (σ.set i (some v)) F H ∧ (∀ a, Ow (ρ.set i (some c)) (σ.set i (some v)) a → Ow ρ σ a ∨ owns c v a) ∧ ∀ j, (∃ d, (ρ.set i (some c))[j]? = some (some (.vw d))) → j ≠ i ∧ ∃ d, ρ[j]? = some (some (.vw d)) := by
  have old : ∀ {j : Nat} {c' : Cell}, (ρ.set i (some c))[j]? = some (some c') → (j = i ∧ c' = c ∧ (σ.set i (some v))[j]? = some (some v)) ∨ (j ≠ i ∧ ρ[j]? = some (some c') ∧ (σ.set i (some v))[j]? = σ[j]?) := fun {j c'} e => by
    by_cases hj : j = i
    · subst hj
      by_cases hi : j < ρ.length
      · rw [List.getElem?_set_self hi] at e
        cases e
        exact .inl ⟨rfl, rfl, List.getElem?_set_self (by rw [← R.len]; exact hi)⟩
      · rw [List.getElem?_eq_none (by rw [List.length_set]; omega)] at e; cases e
    · rw [List.getElem?_set_ne (Ne.symm hj)] at e
      exact .inr ⟨hj, e, List.getElem?_set_ne (Ne.symm hj)⟩
  refine ⟨⟨by rw [List.length_set, List.length_set]; exact R.len, R.le, fun j c' e => ?_, fun j k cj ck a e1 e2 o1 o2 s1 s2 => ?_, fun j d a e s z => ?_⟩, fun a z => ?_, fun j ⟨d, e⟩ => ?_⟩
  · rcases old e with ⟨_, rfl, es⟩ | ⟨_, e, es⟩
    · exact ⟨v, es, r⟩
    · rw [es]; exact R.cell j c' e
  · rcases old e1 with ⟨rfl, rfl, es⟩ | ⟨h1, e1, es⟩ <;> rcases old e2 with ⟨rfl, rfl, et⟩ | ⟨h2, e2, et⟩
    · rfl
    · rw [es] at s1; cases s1
      rw [et] at s2
      exact absurd ⟨k, ck, e2, o2, s2⟩ (ho a ⟨o1, rfl⟩).1
    · rw [et] at s2; cases s2
      rw [es] at s1
      exact absurd ⟨j, cj, ‹ρ[j]? = _›, o1, s1⟩ (ho a ⟨o2, rfl⟩).1
    · rw [es] at s1; rw [et] at s2
      exact R.dis j k cj ck a e1 e2 o1 o2 s1 s2
  · obtain ⟨k, ck, e2, o2, s2⟩ := z
    rcases old e with ⟨rfl, h, es⟩ | ⟨h1, e, es⟩
    · subst h; exact hn.elim
    · rw [es] at s
      rcases old e2 with ⟨rfl, rfl, et⟩ | ⟨h2, e2, et⟩
      · rw [et] at s2; cases s2
        exact (ho a ⟨o2, rfl⟩).2 ⟨j, d, ‹ρ[j]? = _›, s⟩
      · rw [et] at s2
        exact R.vw j d a e s ⟨k, ck, e2, o2, s2⟩
  · obtain ⟨k, ck, e2, o2, s2⟩ := z
    rcases old e2 with ⟨rfl, rfl, et⟩ | ⟨h2, e2, et⟩
    · rw [et] at s2; cases s2
      exact .inr ⟨o2, rfl⟩
    · rw [et] at s2
      exact .inl ⟨k, ck, e2, o2, s2⟩
  · rcases old e with ⟨rfl, h, es⟩ | ⟨h1, e, es⟩
    · subst h; exact hn.elim
    · exact ⟨h1, d, e⟩

theorem wipeR_length (ρ : Rho) : ∀ vs : List Nat, (wipeR ρ vs).length = ρ.length
  | [] => rfl
  | v :: vs => by unfold wipeR; rw [List.length_set, wipeR_length ρ vs]
theorem wipeR_some {i : Nat} {c : Cell} : ∀ {vs : List Nat}, (wipeR ρ vs)[i]? = some (some c) → ρ[i]? = some (some c) ∧ i ∉ vs
  | [], h => ⟨h, by simp⟩
  | v :: vs, h => by
    unfold wipeR at h
    by_cases hi : v = i
    · subst hi
      by_cases hv : v < (wipeR ρ vs).length
      · rw [List.getElem?_set_self hv] at h; cases h
      · rw [List.getElem?_eq_none (by rw [List.length_set]; omega)] at h; cases h
    · rw [List.getElem?_set_ne hi] at h
      obtain ⟨h1, h2⟩ := wipeR_some h
      exact ⟨h1, by simp [h2, Ne.symm hi]⟩
theorem wipeR_out {i : Nat} : ∀ {vs : List Nat}, i ∉ vs → (wipeR ρ vs)[i]? = ρ[i]?
  | [], _ => rfl
  | v :: vs, h => by
    simp only [List.mem_cons, not_or] at h
    unfold wipeR
    rw [List.getElem?_set_ne (Ne.symm h.1), wipeR_out h.2]
theorem wipe_out {i : Nat} : ∀ {vs : List Nat}, i ∉ vs → (wipe σ vs)[i]? = σ[i]?
  | [], _ => rfl
  | v :: vs, h => by
    simp only [List.mem_cons, not_or] at h
    unfold wipe
    rw [List.getElem?_set_ne (Ne.symm h.1), wipe_out h.2]
theorem wipe_in {i : Nat} : ∀ {vs : List Nat}, i ∈ vs → i < σ.length → (wipe σ vs)[i]? = some none
  | v :: vs, h, hl => by
    unfold wipe
    by_cases hi : v = i
    · subst hi
      rw [List.getElem?_set_self (by rw [wipe_length]; exact hl)]
    · rw [List.getElem?_set_ne hi]
      exact wipe_in (by rcases List.mem_cons.mp h with e | e; · exact absurd e.symm hi
                        · exact e) hl
theorem wipe_same {vs : List Nat} (hl : σ'.length = σ.length) (h : ∀ j, j ∉ vs → σ'[j]? = σ[j]?) : wipe σ' vs = wipe σ vs := by
  refine List.ext_getElem? fun j => ?_
  by_cases hj : j ∈ vs
  · by_cases hlt : j < σ.length
    · rw [wipe_in hj hlt, wipe_in hj (by omega)]
    · rw [List.getElem?_eq_none (by rw [wipe_length]; omega), List.getElem?_eq_none (by rw [wipe_length]; omega)]
  · rw [wipe_out hj, wipe_out hj, h j hj]
theorem wipe_less {vs : List Nat} (i : Nat) (c : Cell) (h : (wipeR ρ vs)[i]? = some (some c)) : ρ[i]? = some (some c) ∧ (wipe σ vs)[i]? = σ[i]? := by
  obtain ⟨h1, h2⟩ := wipeR_some h
  exact ⟨h1, wipe_out h2⟩
theorem Rl.wipe (R : Rl M ρ σ F H) (vs : List Nat) : Rl M (wipeR ρ vs) (wipe σ vs) F H :=
  R.less (by rw [wipeR_length, wipe_length]; exact R.len) wipe_less

theorem lookR_length (ρ : Rho) : ∀ vs : List Nat, (lookR ρ vs).length = ρ.length
  | [] => rfl
  | v :: vs => by unfold lookR; split <;> first | rw [List.length_set, lookR_length ρ vs] | exact lookR_length ρ vs
theorem look_get {i : Nat} {c : Cell} : ∀ {ls : List Nat}, (lookR ρ ls)[i]? = some (some c) → (ρ[i]? = some (some c) ∧ (i ∈ ls → isOwn c = false)) ∨ ∃ c0, ρ[i]? = some (some c0) ∧ i ∈ ls ∧ isOwn c0 = true ∧ c = .vw c0.d
  | [], h => .inl ⟨h, by simp⟩
  | v :: ls, h => by
    have up : (lookR ρ ls)[i]? = some (some c) → (v = i → ∀ c', ρ[v]? = some (some c') → isOwn c' = false) → (ρ[i]? = some (some c) ∧ (i ∈ v :: ls → isOwn c = false)) ∨ ∃ c0, ρ[i]? = some (some c0) ∧ i ∈ v :: ls ∧ isOwn c0 = true ∧ c = .vw c0.d := fun h hv => by
      rcases look_get h with ⟨h1, h2⟩ | ⟨c0, h1, h2, h3, h4⟩
      · refine .inl ⟨h1, fun hm => ?_⟩
        rcases List.mem_cons.mp hm with e | e
        · exact hv e.symm c (by rw [← e]; exact h1)
        · exact h2 e
      · exact .inr ⟨c0, h1, List.mem_cons_of_mem _ h2, h3, h4⟩
    unfold lookR at h
    split at h
    · rename_i ds hd
      by_cases hv : v = i
      · subst hv
        rw [List.getElem?_set_self (by rw [lookR_length]; exact (List.getElem?_eq_some_iff.mp hd).1)] at h
        cases h
        exact .inr ⟨_, hd, by simp, rfl, rfl⟩
      · rw [List.getElem?_set_ne hv] at h
        exact up h fun e => absurd e hv
    · rename_i ds hd
      by_cases hv : v = i
      · subst hv
        rw [List.getElem?_set_self (by rw [lookR_length]; exact (List.getElem?_eq_some_iff.mp hd).1)] at h
        cases h
        exact .inr ⟨_, hd, by simp, rfl, rfl⟩
      · rw [List.getElem?_set_ne hv] at h
        exact up h fun e => absurd e hv
    · rename_i h1 h2
      refine up h fun e c' hc' => ?_
      cases c' with
      | fz _ => rfl
      | vw _ => rfl
      | lst _ => exact absurd hc' (h1 _)
      | dic _ _ => exact absurd hc' (h2 _ _)
theorem Rl.look (R : Rl M ρ σ F H) (ls : List Nat) : Rl M (lookR ρ ls) σ F H where
  len := by rw [lookR_length]; exact R.len
  le := R.le
  cell := fun i c e => by
    rcases look_get e with ⟨h, _⟩ | ⟨c0, h, _, o, rfl⟩
    · exact R.cell i c h
    · obtain ⟨v, ev, r⟩ := R.cell i c0 h
      refine ⟨v, ev, ?_⟩
      obtain ⟨a, o', rfl, n, q, r⟩ := r.own o
      exact ⟨a, o', rfl, q, r, .inl n⟩
  dis := fun i j ci cj a e1 e2 o1 o2 s1 s2 => by
    rcases look_get e1 with ⟨h1, _⟩ | ⟨c0, _, _, _, rfl⟩
    · rcases look_get e2 with ⟨h2, _⟩ | ⟨c0, _, _, _, rfl⟩
      · exact R.dis i j ci cj a h1 h2 o1 o2 s1 s2
      · cases o2
    · cases o1
  vw := fun i d a e s z => by
    obtain ⟨k, ck, e2, o2, s2⟩ := z
    rcases look_get e2 with ⟨h2, n2⟩ | ⟨c0, _, _, _, rfl⟩
    · rcases look_get e with ⟨h1, _⟩ | ⟨c0, h1, h3, o, _⟩
      · exact R.vw i d a h1 s ⟨k, ck, h2, o2, s2⟩
      · have := R.dis i k c0 ck a h1 h2 o o2 s s2
        subst this
        rw [h1] at h2; cases h2
        rw [n2 h3] at o; cases o
    · cases o2
theorem back_get {ρ₀ : Rho} {i : Nat} {c : Cell} : ∀ {vs : List Nat}, (backR ρ₀ ρ vs)[i]? = some (some c) → (i ∈ vs ∧ ρ₀[i]? = some (some c)) ∨ (i ∉ vs ∧ ρ[i]? = some (some c))
  | [], h => .inr ⟨by simp, h⟩
  | v :: vs, h => by
    unfold backR at h
    by_cases hv : v = i
    · subst hv
      by_cases hl : v < (backR ρ₀ ρ vs).length
      · rw [List.getElem?_set_self hl] at h
        refine .inl ⟨by simp, ?_⟩
        cases e : ρ₀[v]? with
        | none => rw [e] at h; cases h
        | some x => rw [e] at h; simpa using h
      · rw [List.getElem?_eq_none (by rw [List.length_set]; omega)] at h; cases h
    · rw [List.getElem?_set_ne hv] at h
      rcases back_get h with ⟨h1, h2⟩ | ⟨h1, h2⟩
      · exact .inl ⟨by simp [h1], h2⟩
      · exact .inr ⟨by simp [h1, Ne.symm hv], h2⟩
theorem backR_length (ρ₀ ρ : Rho) : ∀ vs : List Nat, (backR ρ₀ ρ vs).length = ρ.length
  | [] => rfl
  | v :: vs => by unfold backR; rw [List.length_set, backR_length ρ₀ ρ vs]
end

mutual
theorem asg_len : ∀ {t : Tg} {d : D} {ρ ρ' : Rho}, asg t d ρ = some ρ' → ρ'.length = ρ.length
  | .name i, d, ρ, ρ', h => by
    simp only [asg] at h
    split at h
    · cases h; exact List.length_set
    · cases h
  | .tup ts, d, ρ, ρ', h => by
    cases d <;> simp only [asg] at h <;> first | exact asgs_len h | cases h
theorem asgs_len : ∀ {ts : List Tg} {ds : List D} {ρ ρ' : Rho}, asgs ts ds ρ = some ρ' → ρ'.length = ρ.length
  | [], [], ρ, ρ', h => by simp only [asgs, Option.some.injEq] at h; rw [h]
  | t :: ts, d :: ds, ρ, ρ', h => by
    simp only [asgs] at h
    split at h
    · rename_i ρ1 h1
      rw [asgs_len h, asg_len h1]
    · cases h
  | [], _ :: _, _, _, h => by simp [asgs] at h
  | _ :: _, [], _, _, h => by simp [asgs] at h
end
/-- behind an assignment: what else stays -/
structure Asd (vs : List Nat) (ρ : Rho) (σ : L2.St) (ρ' : Rho) (σ' : L2.St) : Prop where
  len : σ'.length = σ.length
  out : ∀ j, j ∉ vs → σ'[j]? = σ[j]? ∧ ρ'[j]? = ρ[j]?
  ow : ∀ a, Ow ρ' σ' a → Ow ρ σ a
  see : ∀ j, (∃ d, ρ'[j]? = some (some (.vw d))) → j ∉ vs ∧ ∃ d, ρ[j]? = some (some (.vw d))
theorem Asd.refl {ρ : Rho} {σ : L2.St} : Asd [] ρ σ ρ σ := ⟨rfl, fun j _ => ⟨rfl, rfl⟩, fun a h => h, fun j h => ⟨by simp, h⟩⟩
theorem Asd.trans {vs ws : List Nat} {ρ ρ1 ρ2 : Rho} {σ σ1 σ2 : L2.St} (a : Asd vs ρ σ ρ1 σ1) (b : Asd ws ρ1 σ1 ρ2 σ2) : Asd (vs ++ ws) ρ σ ρ2 σ2 where
  len := b.len.trans a.len
  out := fun j hj => by
    simp only [List.mem_append, not_or] at hj
    exact ⟨(b.out j hj.2).1.trans (a.out j hj.1).1, (b.out j hj.2).2.trans (a.out j hj.1).2⟩
  ow := fun p h => a.ow p (b.ow p h)
  see := fun j h => by
    obtain ⟨h1, h2⟩ := b.see j h
    obtain ⟨h3, h4⟩ := a.see j h2
    exact ⟨by simp [h1, h3], h4⟩
/-- a target, by the evaluator -/
def gT (M : Mx) (t : Tg) : TG := fun v σ H Q => ∃ ρ F d ρ', Rl M ρ σ F H ∧ RepF M F d v ∧ asg t d ρ = some ρ' ∧ ∀ σ', Rl M ρ' σ' F H → Asd (tgs t) ρ σ ρ' σ' → Q σ' H
def gTs (M : Mx) (ts : List Tg) : TGs := fun vs σ H Q => ∃ ρ F ds ρ', Rl M ρ σ F H ∧ RepsF M F ds vs ∧ asgs ts ds ρ = some ρ' ∧ ∀ σ', Rl M ρ' σ' F H → Asd (tgss ts) ρ σ ρ' σ' → Q σ' H
section
variable {M : Mx} {X : Cx}
theorem pg_imp {e : Expr} {t t' : TG} (h : PG X e t) (i : ∀ v σ H Q, t' v σ H Q → t v σ H Q) : PG X e t' := ⟨fun pins s σ H v u Q I r q => h.run pins s σ H v u Q I r (i v σ H Q q)⟩
theorem pgs_imp {e : List Expr} {t t' : TGs} (h : PGs X e t) (i : ∀ v σ H Q, t' v σ H Q → t v σ H Q) : PGs X e t' := ⟨fun pins s σ H v u Q I r q => h.run pins s σ H v u Q I r (i v σ H Q q)⟩
theorem sg_name {e : Expr} {i : Nat} (h : PG X e (gName i)) : PG X e (gT M (.name i)) := by
  refine pg_imp h fun v σ H Q ⟨ρ, F, d, ρ', R, r, ha, k⟩ => ?_
  simp only [asg] at ha
  split at ha
  · rename_i hi
    cases ha
    obtain ⟨R', h1, h2⟩ := R.put1 (i := i) (c := .fz d) (v := v) trivial r fun a ha => absurd ha.1 (by simp [isOwn])
    refine k _ R' ⟨List.length_set, fun j hj => ?_, fun a z => (h1 a z).elim (fun z => z) fun z => absurd z.1 (by simp [isOwn]), fun j z => ?_⟩
    · have hj : j ≠ i := by simpa [tgs] using hj
      exact ⟨List.getElem?_set_ne (Ne.symm hj), List.getElem?_set_ne (Ne.symm hj)⟩
    · obtain ⟨z1, z2⟩ := h2 j z
      exact ⟨by simpa [tgs] using z1, z2⟩
  · cases ha
theorem sgs_nil : PGs X [] (gTs M []) := by
  refine pgs_imp pgs_nil fun vs σ H Q ⟨ρ, F, ds, ρ', R, r, ha, k⟩ => ?_
  cases ds with
  | nil =>
    simp only [asgs, Option.some.injEq] at ha
    subst ha
    exact ⟨r, k σ R .refl⟩
  | cons d ds => simp [asgs] at ha
theorem sgs_cons {e : Expr} {es : List Expr} {t : Tg} {ts : List Tg} (h1 : PG X e (gT M t)) (h2 : PGs X es (gTs M ts)) (hs : (assignEach (e :: es) X.env).map (·.2) = assign e X.env :: (assignEach es X.env).map (·.2)) : PGs X (e :: es) (gTs M (t :: ts)) := by
  refine pgs_imp (pgs_cons h1 h2 hs) fun vs σ H Q ⟨ρ, F, ds, ρ', R, r, ha, k⟩ => ?_
  cases ds with
  | nil => simp [asgs] at ha
  | cons d ds =>
    obtain ⟨v, w, rfl, rv, rw'⟩ := r
    simp only [asgs] at ha
    split at ha
    · rename_i ρ1 h1
      refine ⟨v, w, rfl, ρ, F, d, ρ1, R, rv, h1, fun σ1 R1 a1 => ⟨ρ1, F, ds, ρ', R1, rw', ha, fun σ2 R2 a2 => k σ2 R2 ?_⟩⟩
      have := a1.trans a2
      simpa only [tgss] using this
    · cases ha
theorem sg_tup (hK : M.K = X.K) (hc : X.calm = true) {es : List Expr} {k : Nat} {pos : Pos} {ts : List Tg} (h : PGs X es (gTs M ts)) (hn : (assignEach es X.env).length = ts.length) (hst : (assignEach es X.env).findIdx? (·.1) = none) : PG X (.Tuple es k pos) (gT M (.tup ts)) := by
  refine pg_imp (pg_tup hc h hn hst) fun v σ H Q ⟨ρ, F, d, ρ', R, r, ha, k⟩ => ?_
  cases d with
  | tup ds =>
    obtain ⟨a, vs, rfl, q, r⟩ := r
    simp only [asg] at ha
    have hl : ts.length = ds.length := by
      have : ∀ {ts : List Tg} {ds : List D} {ρ ρ' : Rho}, asgs ts ds ρ = some ρ' → ts.length = ds.length := by
        intro ts
        induction ts with
        | nil => intro ds ρ ρ' h; cases ds <;> simp [asgs] at h ⊢
        | cons t ts ih =>
          intro ds ρ ρ' h
          cases ds with
          | nil => simp [asgs] at h
          | cons d ds =>
            simp only [asgs] at h
            split at h
            · simp [ih h]
            · cases h
      exact this ha
    refine ⟨a, vs, rfl, by rw [← hK]; exact SqT.le R.le q, by rw [hl, r.len], ρ, F, ds, ρ', R, r, ha, fun σ' R' a' => k σ' R' ?_⟩
    simpa only [tgs] using a'
  | _ => simp [asg] at ha
end
end Ev
end

section
set_option maxHeartbeats 0
namespace Ev
open PySem PySem.Spec PyProof.Rows L2

def noW : L2.WX := fun _ _ _ _ => False
section
variable {g : G} {cl : Nat → List Cell → Option (R Cell)} {M : Mx} {W : L2.WX} {X : Cx}
/-- a clause's tests -/
def tCs (g : G) (cl : Nat → List Cell → Option (R Cell)) (M : Mx) (cs : Es) : TT := fun σ H Q => ∃ ρ F, Rl M ρ σ F H ∧ Post M noW σ (sta ρ σ F H) (PT' (· = ·)) Q (bnd (evAnd g cl cs ρ) truC)
theorem scs_nil : PTs X [] (tCs g cl M .nil) := ⟨fun pins s σ H Q I ⟨ρ, F, R, p⟩ => pts_nil.run pins s σ H Q I (by
  simp only [evAnd, bnd, truC] at p
  exact p.ok R (Stp.refl _ _ _) rfl)⟩
theorem scs_one {e : Expr} {b : Bool} {m : Ex} (h : PT X e (tV g cl M noW m)) : PTs X [e] (tCs g cl M (.cons b m .nil)) := ⟨fun pins s σ H Q I ⟨ρ, F, R, p⟩ => (pts_one h).run pins s σ H Q I ⟨ρ, F, R, by rw [evAnd_one] at p; exact p⟩⟩
def lcF (g : G) (cl : Nat → List Cell → Option (R Cell)) (e : Ex) (t : Tg) (cs : Es) : D → Rho → Option (R (Option D)) := fun d ρ => match asg t d ρ with
          | some ρ => match evAnd g cl cs ρ with
              | some (.ok c ρ) => match truth c.d with
                  | some true => bnd (evE g cl e ρ) fun y ρ => some (.ok (some y.d) ρ)
                  | some false => some (.ok none ρ)
                  | none => none
              | _ => none
          | none => none
theorem Asd.stp {vs : List Nat} {ρ ρ' : Rho} {σ σ' : L2.St} {F H : Hp} (a : Asd vs ρ σ ρ' σ') : Stp (Fo ρ σ) F H (Fo ρ' σ') F H :=
  ⟨Ev.le.refl F, fun _ _ e _ => ⟨e, fun x => x⟩, fun _ h => h, fun p h => .inl (a.ow p h), fun j h => (a.see j h).2⟩
/-- one turn -/
theorem lc_turn {e : Ex} {t : Tg} {cs : Es} {own : List Nat} {ρw ρn : Rho} {σw : L2.St} {F H : Hp} {d : D} {v : V} {r : Option D} {K1 : V → Hp → Prop} {K0 : Hp → Prop} (hf : lcF g cl e t cs d ρw = some (.ok r ρn)) (R : Rl M ρw σw F H) (rd : RepF M F d v)
    (hsub : ∀ j ∈ tgs t, j ∈ own)
    (k1 : ∀ y σ2 F4 H4 w, r = some y → Rl M ρn σ2 F4 H4 → Stp (Fo ρw σw) F H (Fo ρn σ2) F4 H4 → (∀ j, j ∉ own → σ2[j]? = σw[j]?) → σ2.length = σw.length → RepF M F4 y w → K1 w H4)
    (k0 : ∀ σ2 F4 H4, r = none → Rl M ρn σ2 F4 H4 → Stp (Fo ρw σw) F H (Fo ρn σ2) F4 H4 → (∀ j, j ∉ own → σ2[j]? = σw[j]?) → σ2.length = σw.length → K0 H4) :
    gT M t v σw H fun σ2 H2 => wipe σ2 own = wipe σw own ∧ tCs g cl M cs σ2 H2 fun b H3 => if b = true then tF g cl M noW e σ2 H3 K1 else K0 H3 := by
  unfold lcF at hf
  split at hf
  · rename_i ρ2 ha
    refine ⟨ρw, F, d, ρ2, R, rd, ha, fun σ2 R2 a2 => ?_⟩
    have ho : ∀ j, j ∉ own → σ2[j]? = σw[j]? := fun j hj => (a2.out j fun z => hj (hsub j z)).1
    refine ⟨wipe_same a2.len ho, ρ2, F, R2, ?_⟩
    split at hf
    · rename_i c ρ3 hc
      split at hf
      · rename_i htr
        rw [hc]
        simp only [bnd, truC, htr]
        intro b F3 H3 R3 s3 hb
        cases hb
        rw [if_pos rfl]
        refine ⟨ρ3, F3, R3, ?_⟩
        cases he : evE g cl e ρ3 with
        | none => rw [he] at hf; cases hf
        | some q =>
          rw [he] at hf
          cases q with
          | exc x ρ' => cases hf
          | ok y ρ4 =>
            simp only [bnd] at hf ⊢
            cases hf
            intro w F4 H4 R4 s4 pw
            exact k1 y.d σ2 F4 H4 w rfl R4 ((a2.stp.trans s3).trans s4) ho a2.len pw
      · rename_i htr
        cases hf
        rw [hc]
        simp only [bnd, truC, htr]
        intro b F3 H3 R3 s3 hb
        cases hb
        rw [if_neg Bool.false_ne_true]
        exact k0 σ2 F3 H3 rfl R3 (a2.stp.trans s3) ho a2.len
      · cases hf
    · cases hf
  · cases hf
/-- a list that no name holds gets other items -/
theorem Rl.putD {ρ : Rho} {σ : L2.St} {F H : Hp} (R : Rl M ρ σ F H) {a : Addr} {o : HO} (n : F a = none) (h1 : ¬ Ow ρ σ a) (h2 : ¬ Nw ρ σ a) : Rl M ρ σ F (L2.upd H a o) where
  len := R.len
  le := Ev.le.updR R.le n
  dis := R.dis
  vw := R.vw
  cell := fun i c e => by
    obtain ⟨v, ev, r⟩ := R.cell i c e
    refine ⟨v, ev, ?_⟩
    have own : isOwn c = true → RepO M F (L2.upd H a o) c.d v := fun oc => by
      obtain ⟨b, o', e2, nn, q, r⟩ := r.own oc
      have hb : b ≠ a := fun z => h1 ⟨i, _, e, oc, by rw [ev, e2, z]⟩
      exact ⟨b, o', e2, nn, by rw [upd_ne hb]; exact q, r⟩
    cases c with
    | fz d => exact r
    | vw d =>
      obtain ⟨b, o', e2, q, r, nn⟩ := r
      have hb : b ≠ a := fun z => h2 ⟨i, d, e, by rw [ev, e2, z]⟩
      exact ⟨b, o', e2, by rw [upd_ne hb]; exact q, r, nn⟩
    | lst ds => exact own rfl
    | dic ks ds => exact own rfl
theorem Stp.updD {O O' : Bool → Addr → Prop} {F H F' H' : Hp} (s : Stp O F H O' F' H') {a : Addr} {o : HO} (n : H a = none) : Stp O F H O' F' (L2.upd H' a o) where
  mono := s.mono
  keep := fun p u e nn => by
    have hp : p ≠ a := fun z => by rw [z, n] at e; cases e
    rw [upd_ne hp]; exact s.keep p u e nn
  stay := fun p h => by
    have hp : p ≠ a := fun z => h (z ▸ n)
    rw [upd_ne hp]; exact s.stay p h
  fresh := s.fresh
  see := s.see
/-- the loop's state -/
structure LcI (M : Mx) (ρ1 : Rho) (σ : L2.St) (F1 H1 : Hp) (ls own : List Nat) (D0 : Addr) (ρi : Rho) (acc : List D) (Fi Hi : Hp) : Prop where
  rl : Rl M (wipeR ρi own) (wipe σ own) Fi Hi
  st : Stp (Fo (wipeR (lookR ρ1 ls) own) (wipe σ own)) F1 H1 (Fo (wipeR ρi own) (wipe σ own)) Fi Hi
  at_ : ∃ vs, Hi D0 = some (.lst vs) ∧ RepsF M Fi acc vs
  n : Fi D0 = none
  ow : ¬ Ow (wipeR ρi own) (wipe σ own) D0
  nw : ¬ Nw (wipeR ρi own) (wipe σ own) D0
/-- the end: the names are back -/
theorem lc_end {ρ1 ρi : Rho} {σ : L2.St} {F1 H1 Fi Hi : Hp} {ls own : List Nat} {D0 : Addr} {acc : List D} {Q : VK} (R1 : Rl M ρ1 σ F1 H1) (hD : H1 D0 = none) (L : LcI M ρ1 σ F1 H1 ls own D0 ρi acc Fi Hi)
    (p : Post M W σ (sta ρ1 σ F1 H1) (PC M σ) Q (some (.ok (.lst acc) (backR ρ1 (backR ρ1 ρi ls) own)))) : Q (.ref D0) Hi := by
  have T := L.st
  -- what a name holds in the end: as ahead of the block, or as within
  have get : ∀ {j : Nat} {c : Cell}, (backR ρ1 (backR ρ1 ρi ls) own)[j]? = some (some c) → ((j ∈ own ∨ j ∈ ls) ∧ ρ1[j]? = some (some c)) ∨ (j ∉ own ∧ j ∉ ls ∧ (wipeR ρi own)[j]? = some (some c) ∧ (wipe σ own)[j]? = σ[j]?) := fun {j c} e => by
    rcases back_get e with ⟨h, e⟩ | ⟨h, e⟩
    · exact .inl ⟨.inl h, e⟩
    · rcases back_get e with ⟨h', e⟩ | ⟨h', e⟩
      · exact .inl ⟨.inr h', e⟩
      · exact .inr ⟨h, h', by rw [wipeR_out h]; exact e, wipe_out h⟩
  -- owned while the loop ran, then owned ahead of it by a name that isn't brought back
  have was : ∀ {a : Addr}, Ow (wipeR (lookR ρ1 ls) own) (wipe σ own) a → ∃ (k : Nat) (c : Cell), k ∉ own ∧ k ∉ ls ∧ ρ1[k]? = some (some c) ∧ isOwn c = true ∧ σ[k]? = some (some (.ref a)) := fun {a} ⟨k, c, e, o, s⟩ => by
    obtain ⟨e1, h1⟩ := wipeR_some e
    rw [wipe_out h1] at s
    rcases look_get e1 with ⟨h2, h3⟩ | ⟨c0, _, _, _, rfl⟩
    · refine ⟨k, c, h1, fun z => ?_, h2, o, s⟩
      rw [h3 z] at o; cases o
    · cases o
  have ow1 : ∀ {a : Addr}, Ow (wipeR (lookR ρ1 ls) own) (wipe σ own) a → Ow ρ1 σ a := fun h => let ⟨k, c, _, _, e, o, s⟩ := was h; ⟨k, c, e, o, s⟩
  have seen : ∀ {j : Nat}, j ∉ ls → (∃ d, (wipeR ρi own)[j]? = some (some (.vw d))) → ∃ d, ρ1[j]? = some (some (.vw d)) := fun {j} hj h => by
    obtain ⟨d, e⟩ := T.see j h
    obtain ⟨e1, _⟩ := wipeR_some e
    rcases look_get e1 with ⟨h2, _⟩ | ⟨c0, _, h3, _⟩
    · exact ⟨d, h2⟩
    · exact absurd h3 hj
  -- an owner ahead, brought back, and an owner within are apart
  have apart : ∀ {j k : Nat} {cj ck : Cell} {a : Addr}, (j ∈ own ∨ j ∈ ls) → ρ1[j]? = some (some cj) → isOwn cj = true → σ[j]? = some (some (.ref a)) → (wipeR ρi own)[k]? = some (some ck) → isOwn ck = true → (wipe σ own)[k]? = some (some (.ref a)) → False := fun {j k cj ck a} hj e1 o1 s1 e2 o2 s2 => by
    rcases T.fresh a ⟨k, ck, e2, o2, s2⟩ with z | z
    · obtain ⟨m, c, hm1, hm2, e3, o3, s3⟩ := was z
      have := R1.dis j m cj c a e1 e3 o1 o3 s1 s3
      subst this
      exact hj.elim hm1 hm2
    · obtain ⟨vs, e, _⟩ := R1.there ⟨j, cj, e1, o1, s1⟩
      rw [z] at e; cases e
  obtain ⟨vs, hat, hrep⟩ := L.at_
  refine p.ok (F' := Fi) (H' := Hi) ⟨?_, L.rl.le, fun j c e => ?_, fun j k cj ck a e1 e2 o1 o2 s1 s2 => ?_, fun j d a e s ⟨k, ck, e2, o2, s2⟩ => ?_⟩ ⟨T.mono, fun a o e n => T.keep a o e fun z => n (ow1 z), T.stay, fun a z => ?_, fun j z => ?_⟩ ⟨trivial, ⟨D0, _, rfl, L.n, hat, vs, rfl, hrep⟩, fun a ha => ?_⟩
  · rw [backR_length, backR_length, ← wipeR_length ρi own, L.rl.len, wipe_length]
  · rcases get e with ⟨hj, e⟩ | ⟨h1, h2, e, es⟩
    · obtain ⟨v, ev, r⟩ := R1.cell j c e
      refine ⟨v, ev, r.stp T fun a hv ho hz => ?_⟩
      subst hv
      obtain ⟨m, c', hm1, hm2, e3, o3, s3⟩ := was hz
      rcases ho with ho | ⟨d, rfl⟩
      · have := R1.dis j m c c' a e e3 ho o3 ev s3
        subst this
        exact hj.elim hm1 hm2
      · exact R1.vw j d a e ev ⟨m, c', e3, o3, s3⟩
    · rw [← es]; exact L.rl.cell j c e
  · rcases get e1 with ⟨h1, e1⟩ | ⟨h1, h1', e1, es1⟩ <;> rcases get e2 with ⟨h2, e2⟩ | ⟨h2, h2', e2, es2⟩
    · exact R1.dis j k cj ck a e1 e2 o1 o2 s1 s2
    · exact (apart h1 e1 o1 s1 e2 o2 (es2.trans s2)).elim
    · exact (apart h2 e2 o2 s2 e1 o1 (es1.trans s1)).elim
    · exact L.rl.dis j k cj ck a e1 e2 o1 o2 (es1.trans s1) (es2.trans s2)
  · rcases get e with ⟨h1, e⟩ | ⟨h1, h1', e, es1⟩ <;> rcases get e2 with ⟨h2, e2⟩ | ⟨h2, h2', e2, es2⟩
    · exact R1.vw j d a e s ⟨k, ck, e2, o2, s2⟩
    · rcases T.fresh a ⟨k, ck, e2, o2, es2.trans s2⟩ with z | z
      · exact R1.vw j d a e s (ow1 z)
      · exact absurd z (R1.thereN ⟨j, d, e, s⟩)
    · obtain ⟨d', e'⟩ := seen h1' ⟨d, e⟩
      exact R1.vw j d' a e' s ⟨k, ck, e2, o2, s2⟩
    · exact L.rl.vw j d a e (es1.trans s) ⟨k, ck, e2, o2, es2.trans s2⟩
  · obtain ⟨k, c, e, o, s⟩ := z
    rcases get e with ⟨h1, e⟩ | ⟨h1, h2, e, es⟩
    · exact .inl ⟨k, c, e, o, s⟩
    · exact (T.fresh a ⟨k, c, e, o, es.trans s⟩).imp ow1 id
  · obtain ⟨d, e⟩ := z
    rcases get e with ⟨h1, e⟩ | ⟨h1, h2, e, es⟩
    · exact ⟨d, e⟩
    · exact seen h2 ⟨d, e⟩
  · cases ha.2
    refine ⟨⟨fun ⟨k, c, e, o, s⟩ => ?_, fun ⟨k, d, e, s⟩ => ?_⟩, .inr hD⟩
    · rcases get e with ⟨h1, e⟩ | ⟨h1, h2, e, es⟩
      · obtain ⟨vs, e', _⟩ := R1.there ⟨k, c, e, o, s⟩
        rw [hD] at e'; cases e'
      · exact L.ow ⟨k, c, e, o, es.trans s⟩
    · rcases get e with ⟨h1, e⟩ | ⟨h1, h2, e, es⟩
      · exact R1.thereN ⟨k, d, e, s⟩ hD
      · exact L.nw ⟨k, d, e, es.trans s⟩
/-- behind a turn -/
theorem lc_next {ρ1 ρi ρn : Rho} {σ σ2 : L2.St} {F1 H1 Fi Hi F4 H4 : Hp} {ls own : List Nat} {D0 : Addr} {acc : List D} (L : LcI M ρ1 σ F1 H1 ls own D0 ρi acc Fi Hi) (R4 : Rl M ρn σ2 F4 H4)
    (s : Stp (Fo (wipeR ρi own) (wipe σ own)) Fi Hi (Fo ρn σ2) F4 H4) (ho : ∀ j, j ∉ own → σ2[j]? = (wipe σ own)[j]?) (hl : σ2.length = (wipe σ own).length) : LcI M ρ1 σ F1 H1 ls own D0 ρn acc F4 H4 := by
  have ws : wipe σ2 own = wipe σ own := by
    refine wipe_same (by rw [hl, wipe_length]) fun j hj => ?_
    rw [ho j hj, wipe_out hj]
  have R5 := R4.wipe own
  rw [ws] at R5
  have sub : ∀ (i : Nat) (c : Cell), (wipeR ρn own)[i]? = some (some c) → ρn[i]? = some (some c) ∧ (wipe σ own)[i]? = σ2[i]? := fun i c h => by rw [← ws]; exact wipe_less i c h
  have s5 : Stp (Fo (wipeR ρi own) (wipe σ own)) Fi Hi (Fo (wipeR ρn own) (wipe σ own)) F4 H4 := ⟨s.mono, s.keep, s.stay, fun a z => s.fresh a (ow_less sub z), fun j ⟨d, e⟩ => s.see j ⟨d, (sub j _ e).1⟩⟩
  obtain ⟨vs, hat, hrep⟩ := L.at_
  obtain ⟨q, k⟩ := s5.keep D0 _ hat L.ow
  refine ⟨R5, L.st.trans s5, ⟨vs, q, RepsF.mono s5.mono _ _ hrep⟩, k L.n, fun z => ?_, fun z => L.nw (s5.nw z)⟩
  rcases s5.fresh D0 z with z | z
  · exact L.ow z
  · rw [hat] at z; cases z
theorem LcI.app {ρ1 ρn : Rho} {σ : L2.St} {F1 H1 F4 H4 : Hp} {ls own : List Nat} {D0 : Addr} {acc : List D} {y : D} {w : V} (L : LcI M ρ1 σ F1 H1 ls own D0 ρn acc F4 H4) (hD : H1 D0 = none) (ry : RepF M F4 y w) :
    ∃ vs, H4 D0 = some (.lst vs) ∧ vs.length = acc.length ∧ LcI M ρ1 σ F1 H1 ls own D0 ρn (acc ++ [y]) F4 (L2.upd H4 D0 (.lst (vs ++ [w]))) := by
  obtain ⟨vs, hat, hrep⟩ := L.at_
  exact ⟨vs, hat, hrep.len.symm, L.rl.putD L.n L.ow L.nw, L.st.updD hD, ⟨_, upd_same, hrep.app ⟨w, [], rfl, ry, rfl⟩⟩, L.n, L.ow, L.nw⟩
theorem lc_pure {e : Ex} {own : List Nat} {t : Tg} {it : Iter} {cs : Es} {σ : L2.St} {H : Hp} {Q : VK} {ρ : Rho} {F : Hp} (R : Rl M ρ σ F H) (p : Post M W σ (sta ρ σ F H) (PC M σ) Q (evE g cl (.lc e own t it cs) ρ)) :
    tLc (tI g cl M W it) (gT M t) (tCs g cl M cs) (tF g cl M noW e) own σ H Q := by
  simp only [evE] at p
  refine ⟨ρ, F, R, Post.bnd p bk_PC fun r ρ1 J F1 H1 _ R1 s1 ⟨has, A, wk⟩ p D0 hD => ?_⟩
  have p : Post M W σ (sta ρ1 σ F1 H1) (PC M σ) Q (match lcL own (lcF g cl e t cs) r.1 [] (lookR ρ1 r.2) with
      | some (.ok l ρ') => if (tgs t).all own.contains then some (.ok (.lst l) (backR ρ1 (backR ρ1 ρ' r.2) own)) else none
      | _ => none) := p
  split at p
  · rename_i l ρ' hlc
    split at p
    · rename_i hall
      have hsub : ∀ j ∈ tgs t, j ∈ own := fun j hj => by
        have := List.all_eq_true.mp hall j hj
        simpa using this
      obtain ⟨ds, ls⟩ := r
      simp only at hlc p wk
      refine ⟨fun i m Hi => ∃ ρi acc Fi, m = ds.length - i ∧ i ≤ ds.length ∧ lcL own (lcF g cl e t cs) (ds.drop i) acc ρi = some (.ok l ρ') ∧ LcI M ρ1 σ F1 H1 ls own D0 ρi acc Fi Hi, ⟨ds.length, lookR ρ1 ls, [], F1, rfl, Nat.zero_le _, by rw [List.drop_zero]; exact hlc, ?_⟩, ?_⟩
      · have Rw := (R1.look ls).wipe own
        obtain ⟨Rn, sn⟩ := Rw.new (F1 := F1) (H1 := L2.upd H1 D0 (.lst [])) (Ev.le.refl _) (Ev.le.upd hD) (Ev.le.updR R1.le (Ev.le.none R1.le hD)) fun _ _ => rfl
        refine ⟨Rn, sn, ⟨[], upd_same, rfl⟩, Ev.le.none R1.le hD, fun z => ?_, fun z => Rw.thereN z hD⟩
        obtain ⟨vs, e, _⟩ := Rw.there z
        rw [hD] at e; cases e
      · rintro i m Hi ⟨ρi, acc, Fi, rfl, hi, hlcL, L⟩
        have hhas : has Hi := wk.keep H1 Hi wk.now fun a ha o e => (L.st.keep a o e fun ⟨k, c, e1, o1, s1⟩ => by
          obtain ⟨e2, h2⟩ := wipeR_some e1
          rw [wipe_out h2] at s1
          rcases look_get e2 with ⟨h3, h4⟩ | ⟨c0, _, _, _, rfl⟩
          · rw [h4 (wk.adr a ha k c h3 o1 s1)] at o1; cases o1
          · cases o1).1
        by_cases hlt : i < ds.length
        · refine .inr ⟨wk.go i Hi hhas hlt, fun H' => ∃ ρn acc' Fn, lcL own (lcF g cl e t cs) (ds.drop (i + 1)) acc' ρn = some (.ok l ρ') ∧ LcI M ρ1 σ F1 H1 ls own D0 ρn acc' Fn H', fun H' ⟨ρn, acc', Fn, h1, h2⟩ => ⟨ds.length - (i + 1), by omega, ρn, acc', Fn, rfl, hlt, h1, h2⟩, fun x H' hy => ?_⟩
          obtain ⟨d, F2, hd, g1, g2, g3, g4, rd⟩ := wk.yld i Hi x H' Fi hhas hlt L.st.mono L.rl.le hy
          obtain ⟨Rn, sn⟩ := L.rl.new g1 g2 g3 g4
          rw [List.drop_eq_getElem_cons hlt] at hlcL
          have hd' : ds[i] = d := by
            rw [List.getElem?_eq_getElem hlt] at hd
            exact Option.some.inj hd
          rw [hd'] at hlcL
          unfold lcL at hlcL
          split at hlcL
          · rename_i y ρn hf
            split at hlcL
            · rename_i hz
              have := lc_turn (own := own) (K1 := fun w H4 => ∃ acc, H4 D0 = some (.lst acc) ∧ acc.length < sizeLine ∧ ∃ ρn acc' Fn, lcL own (lcF g cl e t cs) (ds.drop (i + 1)) acc' ρn = some (.ok l ρ') ∧ LcI M ρ1 σ F1 H1 ls own D0 ρn acc' Fn (L2.upd H4 D0 (.lst (acc ++ [w]))))
                (K0 := fun H3 => ∃ ρn acc' Fn, lcL own (lcF g cl e t cs) (ds.drop (i + 1)) acc' ρn = some (.ok l ρ') ∧ LcI M ρ1 σ F1 H1 ls own D0 ρn acc' Fn H3) hf Rn rd hsub
                (fun y' σ2 F4 H4 w hr R4 s4 ho hl rw' => by
                  cases hr
                  obtain ⟨vs, a1, a2, a3⟩ := (lc_next L R4 (sn.trans s4) ho hl).app hD rw'
                  exact ⟨vs, a1, by rw [a2]; exact hz, ρn, _, F4, hlcL, a3⟩) fun σ2 F4 H4 hr => by cases hr
              rw [show wipe (wipe σ own) own = wipe σ own from wipe_same (by rw [wipe_length]) fun j hj => wipe_out hj] at this
              exact this
            · cases hlcL
          · rename_i ρn hf
            have := lc_turn (own := own) (K1 := fun w H4 => ∃ acc, H4 D0 = some (.lst acc) ∧ acc.length < sizeLine ∧ ∃ ρn acc' Fn, lcL own (lcF g cl e t cs) (ds.drop (i + 1)) acc' ρn = some (.ok l ρ') ∧ LcI M ρ1 σ F1 H1 ls own D0 ρn acc' Fn (L2.upd H4 D0 (.lst (acc ++ [w]))))
                (K0 := fun H3 => ∃ ρn acc' Fn, lcL own (lcF g cl e t cs) (ds.drop (i + 1)) acc' ρn = some (.ok l ρ') ∧ LcI M ρ1 σ F1 H1 ls own D0 ρn acc' Fn H3) hf Rn rd hsub
                (fun y' σ2 F4 H4 w hr => by cases hr) fun σ2 F4 H4 hr R4 s4 ho hl => ⟨ρn, acc, F4, hlcL, lc_next L R4 (sn.trans s4) ho hl⟩
            rw [show wipe (wipe σ own) own = wipe σ own from wipe_same (by rw [wipe_length]) fun j hj => wipe_out hj] at this
            exact this
          · cases hlcL
        · have hi' : i = ds.length := by omega
          subst hi'
          rw [List.drop_length] at hlcL
          unfold lcL at hlcL
          cases hlcL
          exact .inl ⟨wk.stop Hi hhas, lc_end R1 hD L p⟩
    · exact p.elim
  · exact p.elim
theorem se_lc (hc : X.calm = true) (hN : X.N.Nodup) {elt tgt iter : Expr} {ifs : List Expr} {scope : Scope} {ownN : List (Str × Nat)} {pos : Pos} {e : Ex} {t : Tg} {it : Iter} {cs : Es} (hi : PI X tgt iter (tI g cl M W it)) (ok : BlkOk X.N X.env.scope scope ownN)
    (hg : ∀ (s : Shared) (H : Hp) (C : Addr) (cc : List (Str × Addr)) (fp : List Addr), PG (X.blk s H scope (compEnvC scope cc C X.env) fp) tgt (gT M t))
    (ht : ∀ (s : Shared) (H : Hp) (C : Addr) (cc : List (Str × Addr)) (fp : List Addr), PTs (X.blk s H scope (compEnvC scope cc C X.env) fp) ifs (tCs g cl M cs))
    (he : ∀ (s : Shared) (H : Hp) (C : Addr) (cc : List (Str × Addr)) (fp : List Addr), PE (X.blk s H scope (compEnvC scope cc C X.env) fp) elt (tE g cl M noW e)) (hs : ∀ x, foldedSetIterable iter X.env x = pure x) :
    PE X (.ListComp elt [⟨tgt, iter, ifs, 0⟩] scope pos) (tE g cl M W (.lc e (ownN.map (·.2)) t it cs)) :=
  pe_imp (pe_lc hc hN hi ok hg ht (fun s H C cc fp => sf_of (he s H C cc fp)) hs) fun σ H Q ⟨ρ, F, R, p⟩ => lc_pure R p
end
end Ev
end

section
set_option maxHeartbeats 0
namespace Ev
open PySem PySem.Spec PyProof.Rows L2

section
variable (M : Mx) (σ : L2.St) (fd : Fn)
def Pag (S : Sta) (ρ : Rho) (F H : Hp) (j : Nat) : Ag → V → Prop
  | .tmp c, v => nv c ∧ RepC M F H c v ∧ ∀ a, owns c v a → (¬ Ow ρ σ a ∧ ¬ Nw ρ σ a) ∧ (S.O true a ∨ S.H a = none)
  | .lend i, v => σ[i]? = some (some v) ∧ fd.mu.contains j = true
  | .look i, v => σ[i]? = some (some v)
def agOwns : Ag → V → Addr → Prop
  | .tmp c, v, a => owns c v a
  | _, _, _ => False
def agsOwn : List Ag → List V → Addr → Prop
  | a :: as, v :: vs, p => agOwns a v p ∨ agsOwn as vs p
  | _, _, _ => False
def Pas (S : Sta) (ρ : Rho) (F H : Hp) : Nat → List Ag → List V → Prop
  | _, [], vs => vs = []
  | j, a :: as, vs => ∃ v r, vs = v :: r ∧ Pag M σ fd S ρ F H j a v ∧ Pas S ρ F H (j + 1) as r ∧ ∀ p, agOwns a v p → ¬ agsOwn as r p
def PAs : Pr (List Ag) (List V) := fun S ρ' F' H' as vs => Pas M σ fd S ρ' F' H' 0 as vs
end
section
variable {M : Mx} {σ : L2.St} {fd : Fn} {S : Sta} {ρ : Rho} {F H : Hp}
theorem Pas.len : ∀ {j : Nat} {as : List Ag} {vs : List V}, Pas M σ fd S ρ F H j as vs → as.length = vs.length
  | _, [], _, h => by rw [show _ = [] from h] <;> rfl
  | j, a :: as, _, ⟨v, r, e, _, h, _⟩ => by rw [e, List.length_cons, List.length_cons, Pas.len h]
theorem Pas.get : ∀ {j k : Nat} {as : List Ag} {vs : List V} {a : Ag}, Pas M σ fd S ρ F H j as vs → as[k]? = some a → ∃ v, vs[k]? = some v ∧ Pag M σ fd S ρ F H (j + k) a v
  | _, _, [], _, _, _, h => by simp at h
  | j, 0, a :: as, _, _, ⟨v, r, e, p, _, _⟩, h => by
    subst e
    simp at h; subst h
    exact ⟨v, rfl, p⟩
  | j, k + 1, a :: as, _, _, ⟨v, r, e, _, h, _⟩, q => by
    subst e
    obtain ⟨w, h1, h2⟩ := Pas.get (k := k) h (by simpa using q)
    exact ⟨w, by simpa using h1, by rw [show j + (k + 1) = j + 1 + k by omega]; exact h2⟩
theorem agsOwn_get : ∀ {k : Nat} {as : List Ag} {vs : List V} {a : Ag} {v : V} {p : Addr}, as[k]? = some a → vs[k]? = some v → agOwns a v p → agsOwn as vs p
  | _, [], _, _, _, _, h, _, _ => by simp at h
  | _, _ :: _, [], _, _, _, _, h, _ => by simp at h
  | 0, a :: as, v :: vs, _, _, _, h1, h2, h3 => by simp at h1 h2; subst h1 h2; exact .inl h3
  | k + 1, a :: as, v :: vs, _, _, _, h1, h2, h3 => .inr (agsOwn_get (k := k) (by simpa using h1) (by simpa using h2) h3)
/-- two temporaries are apart -/
theorem Pas.apart : ∀ {j k m : Nat} {as : List Ag} {vs : List V} {a b : Ag} {v w : V} {p : Addr}, Pas M σ fd S ρ F H j as vs → as[k]? = some a → vs[k]? = some v → as[m]? = some b → vs[m]? = some w → agOwns a v p → agOwns b w p → k = m
  | _, _, _, [], _, _, _, _, _, _, _, h, _, _, _, _, _ => by simp at h
  | j, k, m, x :: as, _, a, b, v, w, p, ⟨u, r, e, _, h, no⟩, h1, h2, h3, h4, h5, h6 => by
    subst e
    cases k with
    | zero =>
      cases m with
      | zero => rfl
      | succ m =>
        simp at h1 h2; subst h1 h2
        exact absurd (agsOwn_get (k := m) (by simpa using h3) (by simpa using h4) h6) (no p h5)
    | succ k =>
      cases m with
      | zero =>
        simp at h3 h4; subst h3 h4
        exact absurd (agsOwn_get (k := k) (by simpa using h1) (by simpa using h2) h5) (no p h6)
      | succ m =>
        have := Pas.apart (k := k) (m := m) h (by simpa using h1) (by simpa using h2) (by simpa using h3) (by simpa using h4) h5 h6
        omega
theorem agCells_get : ∀ {as : List Ag} {cs : List Cell}, agCells ρ as = some cs → as.length = cs.length ∧ ∀ (k : Nat) (c : Cell), cs[k]? = some c → ∃ a, as[k]? = some a ∧ a.cell ρ = some c
  | [], cs, h => by
    simp only [agCells, Option.some.injEq] at h; subst h
    exact ⟨rfl, fun k c e => by simp at e⟩
  | a :: as, cs, h => by
    simp only [agCells] at h
    split at h
    · rename_i c cs' h1 h2
      cases h
      obtain ⟨l, g⟩ := agCells_get h2
      refine ⟨by rw [List.length_cons, List.length_cons, l], fun k c' e => ?_⟩
      cases k with
      | zero => simp at e; subst e; exact ⟨a, rfl, h1⟩
      | succ k =>
        obtain ⟨b, h3, h4⟩ := g k c' (by simpa using e)
        exact ⟨b, by simpa using h3, h4⟩
    · cases h
theorem mem_lends : ∀ {as : List Ag} {k i : Nat}, as[k]? = some (.lend i) → i ∈ lends as
  | [], _, _, h => by simp at h
  | a :: as, 0, i, h => by simp at h; subst h; simp [lends]
  | a :: as, k + 1, i, h => by
    have := mem_lends (as := as) (k := k) (i := i) (by simpa using h)
    cases a <;> simp [lends, this]
theorem mem_looks : ∀ {as : List Ag} {k i : Nat}, as[k]? = some (.look i) → i ∈ looks as
  | [], _, _, h => by simp at h
  | a :: as, 0, i, h => by simp at h; subst h; simp [looks]
  | a :: as, k + 1, i, h => by
    have := mem_looks (as := as) (k := k) (i := i) (by simpa using h)
    cases a <;> simp [looks, this]
theorem lends_inj : ∀ {as : List Ag} {k m i : Nat}, (lends as).Nodup → as[k]? = some (.lend i) → as[m]? = some (.lend i) → k = m
  | [], _, _, _, _, h, _ => by simp at h
  | a :: as, 0, 0, _, _, _, _ => rfl
  | a :: as, 0, m + 1, i, n, h1, h2 => by
    simp at h1; subst h1
    simp only [lends, List.nodup_cons] at n
    exact absurd (mem_lends (k := m) (by simpa using h2)) n.1
  | a :: as, k + 1, 0, i, n, h1, h2 => by
    simp at h2; subst h2
    simp only [lends, List.nodup_cons] at n
    exact absurd (mem_lends (k := k) (by simpa using h1)) n.1
  | a :: as, k + 1, m + 1, i, n, h1, h2 => by
    have n' : (lends as).Nodup := by
      cases a <;> simp only [lends, List.nodup_cons] at n <;> first | exact n | exact n.2
    rw [lends_inj (k := k) (m := m) n' (by simpa using h1) (by simpa using h2)]
theorem lends_mem : ∀ {as : List Ag} {i : Nat}, i ∈ lends as → ∃ k : Nat, as[k]? = some (Ag.lend i)
  | [], _, h => by simp [lends] at h
  | .tmp c :: as, i, h => by
    obtain ⟨k, e⟩ := lends_mem (as := as) (i := i) h
    exact ⟨k + 1, by simpa using e⟩
  | .look c :: as, i, h => by
    obtain ⟨k, e⟩ := lends_mem (as := as) (i := i) h
    exact ⟨k + 1, by simpa using e⟩
  | .lend c :: as, i, h => by
    rcases List.mem_cons.mp h with e | h
    · exact ⟨0, by simp [e]⟩
    · obtain ⟨k, e⟩ := lends_mem (as := as) (i := i) h
      exact ⟨k + 1, by simpa using e⟩
theorem gb_len : ∀ {as : List Ag} {j : Nat} {ρc ρ2 : Rho}, giveBack ρ ρc j as = some ρ2 → ρ2.length = ρ.length
  | [], _, _, _, h => by simp only [giveBack, Option.some.injEq] at h; rw [h]
  | .tmp c :: as, j, ρc, ρ2, h => gb_len (as := as) (j := j + 1) h
  | .look c :: as, j, ρc, ρ2, h => gb_len (as := as) (j := j + 1) h
  | .lend i :: as, j, ρc, ρ2, h => by
    simp only [giveBack] at h
    split at h
    · split at h
      · obtain ⟨ρ3, h3, rfl⟩ := Option.map_eq_some_iff.mp h
        rw [List.length_set, gb_len h3]
      · cases h
    · cases h
theorem gb_get : ∀ {as : List Ag} {j i : Nat} {ρc ρ2 : Rho} {c : Cell}, giveBack ρ ρc j as = some ρ2 → ρ2[i]? = some (some c) → (i ∉ lends as ∧ ρ[i]? = some (some c)) ∨ ∃ k : Nat, as[k]? = some (Ag.lend i) ∧ ρc[j + k]? = some (some c) ∧ isOwn c = true
  | [], _, _, _, _, _, h, e => by simp only [giveBack, Option.some.injEq] at h; subst h; exact .inl ⟨by simp [lends], e⟩
  | .tmp c0 :: as, j, i, ρc, ρ2, c, h, e => by
    rcases gb_get (as := as) (j := j + 1) h e with h | ⟨k, h1, h2, h3⟩
    · exact .inl h
    · exact .inr ⟨k + 1, by simpa using h1, by rw [show j + (k + 1) = j + 1 + k by omega]; exact h2, h3⟩
  | .look c0 :: as, j, i, ρc, ρ2, c, h, e => by
    rcases gb_get (as := as) (j := j + 1) h e with h | ⟨k, h1, h2, h3⟩
    · exact .inl h
    · exact .inr ⟨k + 1, by simpa using h1, by rw [show j + (k + 1) = j + 1 + k by omega]; exact h2, h3⟩
  | .lend i0 :: as, j, i, ρc, ρ2, c, h, e => by
    simp only [giveBack] at h
    split at h
    · rename_i c0 hc0
      split at h
      · rename_i ho
        obtain ⟨ρ3, h3, rfl⟩ := Option.map_eq_some_iff.mp h
        by_cases hi : i0 = i
        · subst hi
          by_cases hl : i0 < ρ3.length
          · rw [List.getElem?_set_self hl] at e
            cases e
            exact .inr ⟨0, rfl, hc0, ho⟩
          · rw [List.getElem?_eq_none (by rw [List.length_set]; omega)] at e; cases e
        · rw [List.getElem?_set_ne hi] at e
          rcases gb_get (as := as) (j := j + 1) h3 e with h | ⟨k, h1, h2, h3⟩
          · exact .inl ⟨by simp [lends, h.1, Ne.symm hi], h.2⟩
          · exact .inr ⟨k + 1, by simpa using h1, by rw [show j + (k + 1) = j + 1 + k by omega]; exact h2, h3⟩
      · cases h
    · cases h
end

section
variable (M : Mx) (cl : Nat → List Cell → Option (R Cell))
/-- what a def promises, by the evaluator -/
def CPost (f : Nat) (fd : Fn) (cs : List Cell) (vs : List V) (F H : Hp) (Q : VK) (E : XK) : Prop := match cl f cs with
  | some (.ok c ρc) => ∀ v σ' F' H', Rl M ρc σ' F' H' → Stp (Fo (cs.map some) (vs.map some)) F H (Fo ρc σ') F' H' → (∀ j, fd.mu.contains j = true → j < vs.length → σ'[j]? = (vs.map some)[j]?) → nv c → RepC M F' H' c v →
      (∀ a, owns c v a → (¬ Ow ρc σ' a ∧ ¬ Nw ρc σ' a) ∧ (Ow (cs.map some) (vs.map some) a ∨ H a = none)) → Q v H'
  | some (.exc x ρc) => ∀ cls dx σ' F' H', Rl M ρc σ' F' H' → Stp (Fo (cs.map some) (vs.map some)) F H (Fo ρc σ') F' H' → (∀ j, fd.mu.contains j = true → j < vs.length → σ'[j]? = (vs.map some)[j]?) → RepX M F' H' x cls dx → E cls dx H'
  | none => False
def spOf (f : Nat) (fd : Fn) : Sp := fun vs H Q E => ∃ cs F, cs.length = vs.length ∧ vs.length = fd.np ∧ Rl M (cs.map some) (vs.map some) F H ∧ CPost M cl f fd cs vs F H Q E
end
section
variable {M : Mx} {cl : Nat → List Cell → Option (R Cell)} {W : L2.WX} {σ : L2.St} {fd : Fn} {S : Sta} {ρ : Rho} {F H : Hp}
theorem mapSome {α : Type} {l : List α} {j : Nat} {x : α} (h : (l.map some)[j]? = some (some x)) : l[j]? = some x := by
  rw [List.getElem?_map] at h
  cases e : l[j]? with
  | none => rw [e] at h; cases h
  | some y => rw [e] at h; cases h; rfl
theorem mapSome' {α : Type} {l : List α} {j : Nat} {x : α} (h : l[j]? = some x) : (l.map some)[j]? = some (some x) := by
  rw [List.getElem?_map, h]; rfl
theorem lend_cell {i : Nat} {c : Cell} (h : (Ag.lend i).cell ρ = some c) : ρ[i]? = some (some c) ∧ isOwn c = true := by
  simp only [Ag.cell] at h
  split at h
  · cases h; exact ⟨by assumption, rfl⟩
  · cases h; exact ⟨by assumption, rfl⟩
  · cases h
theorem look_cell {i : Nat} {c : Cell} (h : (Ag.look i).cell ρ = some c) : (ρ[i]? = some (some c) ∧ isOwn c = false) ∨ ∃ c0, ρ[i]? = some (some c0) ∧ isOwn c0 = true ∧ c = .vw c0.d := by
  simp only [Ag.cell] at h
  split at h
  · cases h; exact .inl ⟨by assumption, rfl⟩
  · cases h; exact .inl ⟨by assumption, rfl⟩
  · cases h; exact .inr ⟨_, by assumption, rfl, rfl⟩
  · cases h; exact .inr ⟨_, by assumption, rfl, rfl⟩
  · cases h
/-- the callee's parameters -/
theorem call_in {as : List Ag} {vs : List V} {cs : List Cell} (R : Rl M ρ σ F H) (pas : Pas M σ fd S ρ F H 0 as vs) (hcs : agCells ρ as = some cs) (h1 : (lends as).Nodup) (h2 : ∀ i ∈ looks as, i ∉ lends as) :
    Rl M (cs.map some) (vs.map some) F H ∧ ∀ p, Ow (cs.map some) (vs.map some) p → (∃ i c, i ∈ lends as ∧ ρ[i]? = some (some c) ∧ isOwn c = true ∧ σ[i]? = some (some (.ref p))) ∨ ((¬ Ow ρ σ p ∧ ¬ Nw ρ σ p) ∧ (S.O true p ∨ S.H p = none)) := by
  obtain ⟨hl, hg⟩ := agCells_get hcs
  have hlv := pas.len
  have get : ∀ {j : Nat} {c : Cell}, (cs.map some)[j]? = some (some c) → ∃ a v, as[j]? = some a ∧ a.cell ρ = some c ∧ vs[j]? = some v ∧ Pag M σ fd S ρ F H j a v := fun {j c} e => by
    obtain ⟨a, ha, hc⟩ := hg j c (mapSome e)
    obtain ⟨v, hv, hp⟩ := pas.get ha
    exact ⟨a, v, ha, hc, hv, by simpa using hp⟩
  have own : ∀ {j : Nat} {c : Cell} {p : Addr}, (cs.map some)[j]? = some (some c) → isOwn c = true → (vs.map some)[j]? = some (some (.ref p)) →
      (∃ i, as[j]? = some (.lend i) ∧ ρ[i]? = some (some c) ∧ σ[i]? = some (some (.ref p))) ∨ (∃ a, as[j]? = some a ∧ agOwns a (.ref p) p ∧ (¬ Ow ρ σ p ∧ ¬ Nw ρ σ p) ∧ (S.O true p ∨ S.H p = none)) := fun {j c p} e o ev => by
    obtain ⟨a, v, ha, hc, hv, hp⟩ := get e
    have hv' := mapSome ev
    rw [hv] at hv'; cases hv'
    cases a with
    | tmp c0 =>
      cases hc
      exact .inr ⟨_, ha, ⟨o, rfl⟩, hp.2.2 p ⟨o, rfl⟩⟩
    | lend i =>
      exact .inl ⟨i, ha, (lend_cell hc).1, hp.1⟩
    | look i =>
      rcases look_cell hc with ⟨_, n⟩ | ⟨_, _, _, rfl⟩
      · rw [n] at o; cases o
      · cases o
  refine ⟨⟨by rw [List.length_map, List.length_map, ← hl, hlv], R.le, fun j c e => ?_, fun j k cj ck p e1 e2 o1 o2 s1 s2 => ?_, fun j d p e s ⟨k, ck, e2, o2, s2⟩ => ?_⟩, fun p ⟨j, c, e, o, s⟩ => ?_⟩
  · obtain ⟨a, v, ha, hc, hv, hp⟩ := get e
    refine ⟨v, mapSome' hv, ?_⟩
    cases a with
    | tmp c0 => cases hc; exact hp.2.1
    | lend i =>
      obtain ⟨w, ew, r⟩ := R.cell i c (lend_cell hc).1
      rw [hp.1] at ew; cases ew
      exact r
    | look i =>
      rcases look_cell hc with ⟨h, _⟩ | ⟨c0, h, o, rfl⟩
      · obtain ⟨w, ew, r⟩ := R.cell i c h
        rw [show σ[i]? = some (some v) from hp] at ew; cases ew
        exact r
      · obtain ⟨w, ew, r⟩ := R.cell i c0 h
        rw [show σ[i]? = some (some v) from hp] at ew; cases ew
        obtain ⟨a, o', e1, n, q, r⟩ := r.own o
        exact ⟨a, o', e1, q, r, .inl n⟩
  · rcases own e1 o1 s1 with ⟨i, a1, r1, t1⟩ | ⟨a, a1, w1, n1, _⟩ <;> rcases own e2 o2 s2 with ⟨i', a2, r2, t2⟩ | ⟨b, a2, w2, n2, _⟩
    · have := R.dis i i' cj ck p r1 r2 o1 o2 t1 t2
      subst this
      exact lends_inj h1 a1 a2
    · exact absurd ⟨i, cj, r1, o1, t1⟩ n2.1
    · exact absurd ⟨i', ck, r2, o2, t2⟩ n1.1
    · exact pas.apart a1 (mapSome s1) a2 (mapSome s2) w1 w2
  · obtain ⟨a, v, ha, hc, hv, hp⟩ := get e
    have hv' := mapSome s
    rw [hv] at hv'; cases hv'
    cases a with
    | tmp c0 => cases hc; exact hp.1.elim
    | lend i => exact absurd (lend_cell hc).2 (by simp [isOwn])
    | look i =>
      have hs : σ[i]? = some (some (.ref p)) := hp
      rcases look_cell hc with ⟨h, _⟩ | ⟨c0, h, o, _⟩
      · rcases own e2 o2 s2 with ⟨i', a2, r2, t2⟩ | ⟨b, a2, w2, n2, _⟩
        · exact R.vw i d p h hs ⟨i', ck, r2, o2, t2⟩
        · exact n2.2 ⟨i, d, h, hs⟩
      · rcases own e2 o2 s2 with ⟨i', a2, r2, t2⟩ | ⟨b, a2, w2, n2, _⟩
        · have := R.dis i i' c0 ck p h r2 o o2 hs t2
          subst this
          exact h2 i (mem_looks ha) (mem_lends a2)
        · exact n2.1 ⟨i, c0, h, o, hs⟩
  · rcases own e o s with ⟨i, a1, r1, t1⟩ | ⟨a, a1, w1, n1⟩
    · exact .inl ⟨i, c, mem_lends a1, r1, o, t1⟩
    · exact .inr n1
/-- behind the call -/
theorem call_out {as : List Ag} {vs : List V} {cs : List Cell} {ρc ρ2 : Rho} {σ' : L2.St} {F' H' : Hp} (R : Rl M ρ σ F H) (s : Sp' S ρ σ F H) (pas : Pas M σ fd S ρ F H 0 as vs) (hcs : agCells ρ as = some cs) (h1 : (lends as).Nodup) (h2 : ∀ i ∈ looks as, i ∉ lends as)
    (hgb : giveBack ρ ρc 0 as = some ρ2) (Rc : Rl M ρc σ' F' H') (sc : Stp (Fo (cs.map some) (vs.map some)) F H (Fo ρc σ') F' H') (mu : ∀ j, fd.mu.contains j = true → j < vs.length → σ'[j]? = (vs.map some)[j]?) :
    Rl M ρ2 σ F' H' ∧ Sp' S ρ2 σ F' H' ∧ ∀ a, (¬ Ow ρc σ' a ∧ ¬ Nw ρc σ' a) → (Ow (cs.map some) (vs.map some) a ∨ H a = none) → (¬ Ow ρ2 σ a ∧ ¬ Nw ρ2 σ a) ∧ (S.O true a ∨ S.H a = none) := by
  obtain ⟨_, owC⟩ := call_in R pas hcs h1 h2
  obtain ⟨hl, hg⟩ := agCells_get hcs
  have hlv := pas.len
  -- a lent name's value, within and without
  have lent : ∀ {k i : Nat}, as[k]? = some (.lend i) → ∃ v c0, σ[i]? = some (some v) ∧ σ'[k]? = some (some v) ∧ ρ[i]? = some (some c0) ∧ isOwn c0 = true := fun {k i} e => by
    obtain ⟨v, hv, hp⟩ := pas.get e
    have hk : k < cs.length := by rw [← hl]; exact (List.getElem?_eq_some_iff.mp e).1
    obtain ⟨a, ha, hc⟩ := hg k cs[k] (List.getElem?_eq_getElem hk)
    rw [e] at ha; cases ha
    obtain ⟨g1, g2⟩ := lend_cell hc
    refine ⟨v, _, hp.1, ?_, g1, g2⟩
    rw [mu k (by simpa using hp.2) (by rw [← hlv, hl]; exact hk)]
    exact mapSome' hv
  have own2 : ∀ {i : Nat} {c : Cell}, ρ2[i]? = some (some c) → isOwn c = true → ∃ c0, ρ[i]? = some (some c0) ∧ isOwn c0 = true := fun {i c} e o => by
    rcases gb_get hgb e with ⟨_, e⟩ | ⟨k, e1, _, _⟩
    · exact ⟨c, e, o⟩
    · obtain ⟨v, c0, _, _, g1, g2⟩ := lent e1
      exact ⟨c0, g1, g2⟩
  have vw2 : ∀ {i : Nat} {d : D}, ρ2[i]? = some (some (.vw d)) → ρ[i]? = some (some (.vw d)) := fun {i d} e => by
    rcases gb_get hgb e with ⟨_, e⟩ | ⟨k, _, _, o⟩
    · exact e
    · cases o
  have ow2 : ∀ {a : Addr}, Ow ρ2 σ a → Ow ρ σ a := fun ⟨i, c, e, o, es⟩ => let ⟨c0, g1, g2⟩ := own2 e o; ⟨i, c0, g1, g2, es⟩
  refine ⟨⟨(gb_len hgb).trans R.len, Rc.le, fun i c e => ?_, fun i j ci cj p e1 e2 o1 o2 s1 s2 => ?_, fun i d p e es z => R.vw i d p (vw2 e) es (ow2 z)⟩,
    ⟨s.mono.trans sc.mono, fun p o e n => ?_, fun p h => sc.stay p (s.stay p h), fun p z => s.fresh p (ow2 z), fun i ⟨d, e⟩ => s.see i ⟨d, vw2 e⟩⟩, fun a n q => ?_⟩
  · rcases gb_get hgb e with ⟨hi, e⟩ | ⟨k, e1, e2, o⟩
    · obtain ⟨v, ev, r⟩ := R.cell i c e
      refine ⟨v, ev, r.stp sc fun a hv ho hz => ?_⟩
      subst hv
      rcases owC a hz with ⟨i', c', hm, e', o', s'⟩ | ⟨n, _⟩
      · rcases ho with ho | ⟨d, rfl⟩
        · have := R.dis i i' c c' a e e' ho o' ev s'
          subst this
          exact hi hm
        · exact R.vw i d a e ev ⟨i', c', e', o', s'⟩
      · rcases ho with ho | ⟨d, rfl⟩
        · exact n.1 ⟨i, c, e, ho, ev⟩
        · exact n.2 ⟨i, d, e, ev⟩
    · obtain ⟨v, c0, g1, g2, g3, g4⟩ := lent e1
      obtain ⟨w, ew, r⟩ := Rc.cell (0 + k) c e2
      rw [Nat.zero_add, g2] at ew; cases ew
      exact ⟨v, g1, r⟩
  · obtain ⟨c1, f1, g1⟩ := own2 e1 o1
    obtain ⟨c2, f2, g2⟩ := own2 e2 o2
    exact R.dis i j c1 c2 p f1 f2 g1 g2 s1 s2
  · obtain ⟨q, k⟩ := s.keep p o e n
    obtain ⟨q', k'⟩ := sc.keep p o q fun z => by
      rcases owC p z with ⟨i', c', hm, e', o', s'⟩ | ⟨_, h | h⟩
      · rcases s.fresh p ⟨i', c', e', o', s'⟩ with w | w
        · exact n w
        · rw [e] at w; cases w
      · exact n h
      · rw [e] at h; cases h
    exact ⟨q', fun z => k' (k z)⟩
  · refine ⟨⟨fun ⟨i, c, e, o, es⟩ => ?_, fun ⟨i, d, e, es⟩ => ?_⟩, ?_⟩
    · rcases gb_get hgb e with ⟨hi, e⟩ | ⟨k, e1, e2, _⟩
      · rcases q with q | q
        · rcases owC a q with ⟨i', c', hm, e', o', s'⟩ | ⟨n, _⟩
          · have := R.dis i i' c c' a e e' o o' es s'
            subst this
            exact hi hm
          · exact n.1 ⟨i, c, e, o, es⟩
        · obtain ⟨vs, e', _⟩ := R.there ⟨i, c, e, o, es⟩
          rw [q] at e'; cases e'
      · obtain ⟨v, c0, g1, g2, _⟩ := lent e1
        rw [es] at g1; cases g1
        exact n.1 ⟨k, c, by simpa using e2, o, g2⟩
    · have e := vw2 e
      rcases q with q | q
      · rcases owC a q with ⟨i', c', hm, e', o', s'⟩ | ⟨n, _⟩
        · exact R.vw i d a e es ⟨i', c', e', o', s'⟩
        · exact n.2 ⟨i, d, e, es⟩
      · exact R.thereN ⟨i, d, e, es⟩ q
    · rcases q with q | q
      · rcases owC a q with ⟨i', c', hm, e', o', s'⟩ | ⟨_, n⟩
        · exact s.fresh a ⟨i', c', e', o', s'⟩
        · exact n
      · exact s.back (.inr q)
theorem call_core {f : Nat} {as : List Ag} {vs : List V} {Q : VK} (R : Rl M ρ σ F H) (s : Sp' S ρ σ F H) (pas : Pas M σ fd S ρ F H 0 as vs) (p : Post M W σ S (PC M σ) Q (callBy cl f fd as ρ)) : spOf M cl f fd vs H Q (WE W σ) := by
  unfold callBy at p
  split at p
  · rename_i hc
    obtain ⟨h0, h1, h2⟩ := hc
    split at p
    · rename_i cs hcs
      obtain ⟨Rin, _⟩ := call_in R pas hcs h1 h2
      have hlv := pas.len
      refine ⟨cs, F, by rw [← (agCells_get hcs).1, hlv], by rw [← hlv, h0], Rin, ?_⟩
      unfold CPost
      split at p
      · rename_i c ρc hcl
        try rw [hcl]
        intro v σ' F' H' Rc sc mu hn r ho
        split at p
        · rename_i ρ2 hgb
          obtain ⟨R2, s2, o2⟩ := call_out R s pas hcs h1 h2 hgb Rc sc mu
          exact p.ok R2 s2 ⟨hn, r, fun a ha => o2 a (ho a ha).1 (ho a ha).2⟩
        · exact p.elim
      · rename_i x ρc hcl
        try rw [hcl]
        intro cls dx σ' F' H' Rc sc mu rx
        split at p
        · rename_i ρ2 hgb
          obtain ⟨R2, s2, o2⟩ := call_out R s pas hcs h1 h2 hgb Rc sc mu
          exact p cls dx F' H' R2 s2 rx
        · exact p.elim
      · exact p.elim
    · exact p.elim
  · exact p.elim
end
end Ev
end

section
set_option maxHeartbeats 0
namespace Ev
open PySem PySem.Spec PyProof.Rows L2

section
variable {M : Mx} {σ : L2.St} {fd : Fn} {S S1 : Sta} {ρ ρ1 ρ2 : Rho} {F H F1 H1 F2 H2 : Hp}
theorem Pag.stp {j : Nat} {a : Ag} {v : V} (h : Pag M σ fd S ρ1 F1 H1 j a v) (s : Stp (Fo ρ1 σ) F1 H1 (Fo ρ2 σ) F2 H2) : Pag M σ fd S ρ2 F2 H2 j a v := by
  cases a with
  | lend i => exact h
  | look i => exact h
  | tmp c =>
    obtain ⟨hn, r, ho⟩ := h
    refine ⟨hn, r.stp s fun p hv hw => ?_, fun p hp => ⟨⟨fun z => ?_, fun z => (ho p hp).1.2 (s.nw z)⟩, (ho p hp).2⟩⟩
    · rcases hw with hw | ⟨d, rfl⟩
      · exact (ho p ⟨hw, hv⟩).1.1
      · exact hn.elim
    · rcases s.fresh p z with q | q
      · exact (ho p hp).1.1 q
      · obtain ⟨_, o, e2, _⟩ := (r.own hp.1).at hp.2
        rw [q] at e2; cases e2
theorem Pag.back {j : Nat} {a : Ag} {v : V} (h : Pag M σ fd S1 ρ F H j a v) (s : Stp S.O S.F S.H S1.O S1.F S1.H) : Pag M σ fd S ρ F H j a v := by
  cases a with
  | lend i => exact h
  | look i => exact h
  | tmp c => exact ⟨h.1, h.2.1, fun p hp => ⟨(h.2.2 p hp).1, s.back (h.2.2 p hp).2⟩⟩
theorem Pas.back : ∀ {j : Nat} {as : List Ag} {vs : List V}, Pas M σ fd S1 ρ F H j as vs → Stp S.O S.F S.H S1.O S1.F S1.H → Pas M σ fd S ρ F H j as vs
  | _, [], _, h, _ => h
  | j, a :: as, _, ⟨v, r, e, p, h, no⟩, s => ⟨v, r, e, p.back s, Pas.back h s, no⟩
theorem Pas.fresh : ∀ {j : Nat} {as : List Ag} {vs : List V} {p : Addr}, Pas M σ fd S ρ F H j as vs → agsOwn as vs p → S.O true p ∨ S.H p = none
  | _, [], _, _, h, z => by rw [show _ = [] from h] at z; exact z.elim
  | j, a :: as, _, p, ⟨v, r, e, q, h, no⟩, z => by
    subst e
    rcases z with z | z
    · cases a with
      | lend i => exact z.elim
      | look i => exact z.elim
      | tmp c => exact (q.2.2 p z).2
    · exact Pas.fresh h z
end
section
variable {g : G} {cl : Nat → List Cell → Option (R Cell)} {M : Mx} {W : L2.WX} {X : Cx} {fd : Fn}
def PAg (M : Mx) (σ : L2.St) (fd : Fn) (j : Nat) : Pr Ag V := fun S ρ' F' H' a v => Pag M σ fd S ρ' F' H' j a v
def PAs' (M : Mx) (σ : L2.St) (fd : Fn) (j : Nat) : Pr (List Ag) (List V) := fun S ρ' F' H' a v => Pas M σ fd S ρ' F' H' j a v
def tA (g : G) (cl : Nat → List Cell → Option (R Cell)) (M : Mx) (W : L2.WX) (fd : Fn) (j : Nat) (m : Ex) : TE := fun σ H Q => ∃ ρ F, Rl M ρ σ F H ∧ Post M W σ (sta ρ σ F H) (PAg M σ fd j) Q (argOf fd j m (evE g cl m ρ) ρ)
def tAs' (g : G) (cl : Nat → List Cell → Option (R Cell)) (M : Mx) (W : L2.WX) (fd : Fn) (j : Nat) (ms : Es) : TA := fun σ H Q => ∃ ρ F, Rl M ρ σ F H ∧ Post M W σ (sta ρ σ F H) (PAs' M σ fd j) Q (evA g cl fd j ms ρ)
theorem argOf_ne {j : Nat} {m : Ex} (h : ∀ i, m ≠ .var i) (r : Option (R Cell)) (ρ : Rho) : argOf fd j m r ρ = bnd r fun c ρ => some (.ok (.tmp (if fd.mu.contains j then c else .fz c.d)) ρ) := by
  cases m <;> first | rfl | exact absurd rfl (h _)
theorem sg_ne {j : Nat} {e : Expr} {m : Ex} (h : ∀ i, m ≠ .var i) (he : PE X e (tE g cl M W m)) : PE X e (tA g cl M W fd j m) := by
  refine pe_imp he fun σ H Q ⟨ρ, F, R, p⟩ => ⟨ρ, F, R, ?_⟩
  rw [argOf_ne h] at p
  cases hx : evE g cl m ρ with
  | none => rw [hx] at p; exact p.elim
  | some q =>
    rw [hx] at p
    cases q with
    | exc x ρ1 => exact p
    | ok c ρ1 =>
      intro v F1 H1 R1 s1 pc
      simp only [bnd] at p
      by_cases hm : fd.mu.contains j = true
      · rw [if_pos hm] at p
        exact p.ok R1 s1 pc
      · rw [if_neg hm] at p
        obtain ⟨F2, R2, s2, r2⟩ := tmp_frz R1 s1 pc
        exact p.ok R2 s2 ⟨trivial, r2, fun a ha => absurd ha.1 (by simp [isOwn])⟩
theorem sg_var {j : Nat} {e : Expr} {i : Nat} (he : PE X e (tVar i)) : PE X e (tA g cl M W fd j (.var i)) := by
  refine pe_imp he fun σ H Q ⟨ρ, F, R, p⟩ => ?_
  simp only [argOf] at p
  split at p
  · rename_i d hd
    obtain ⟨v, ev, r⟩ := R.cell i _ hd
    exact ⟨v, ev, p.ok R (Stp.refl _ _ _) ⟨trivial, r, fun a ha => absurd ha.1 (by simp [isOwn])⟩⟩
  · rename_i d hd
    obtain ⟨v, ev, r⟩ := R.cell i _ hd
    split at p
    · exact ⟨v, ev, p.ok R (Stp.refl _ _ _) ev⟩
    · exact p.elim
  · rename_i c h1 h2 hd
    obtain ⟨v, ev, r⟩ := R.cell i _ hd
    split at p
    · rename_i hm
      exact ⟨v, ev, p.ok R (Stp.refl _ _ _) ⟨ev, hm⟩⟩
    · split at p
      · exact ⟨v, ev, p.ok R (Stp.refl _ _ _) ev⟩
      · simp only [evE, rdV, hd] at p
        cases c with
        | fz d => exact absurd rfl (h1 d)
        | vw d => exact absurd rfl (h2 d)
        | dic ks ds =>
          obtain ⟨a, o, ev', _, rf, R', s⟩ := R.freeze hd rfl
          simp only [bnd] at p
          exact ⟨_, ev', p.ok R' s ⟨trivial, rf, fun a h => absurd h.1 (by simp [isOwn])⟩⟩
        | lst ds =>
          obtain ⟨a, o, ev', _, rf, R', s⟩ := R.freeze hd rfl
          simp only [bnd] at p
          exact ⟨_, ev', p.ok R' s ⟨trivial, rf, fun a h => absurd h.1 (by simp [isOwn])⟩⟩
  · exact p.elim
/-- one argument, then the others -/
theorem args_step {j : Nat} {m : Ex} {ms : Es} {b : Bool} {σ : L2.St} {H : Hp} {Q : List V → Hp → Prop} {ρ : Rho} {F : Hp} (R : Rl M ρ σ F H) (p : Post M W σ (sta ρ σ F H) (PAs' M σ fd j) Q (evA g cl fd j (.cons b m ms) ρ)) :
    tA g cl M W fd j m σ H fun v H1 => tAs' g cl M W fd (j + 1) ms σ H1 fun vs H2 => Q (v :: vs) H2 := by
  simp only [evA] at p
  refine ⟨ρ, F, R, Post.bnd' p fun a ρ1 v F1 H1 _ R1 s1 pa p => ⟨ρ1, F1, R1, ?_⟩⟩
  cases hx : evA g cl fd (j + 1) ms ρ1 with
  | none => rw [hx] at p; exact p.elim
  | some q =>
    rw [hx] at p
    cases q with
    | exc x ρ2 => exact fun cls dx F2 H2 R2 s2 rx => p cls dx F2 H2 R2 (s1.trans s2) rx
    | ok as ρ2 =>
      intro vs F2 H2 R2 s2 pas
      refine p.ok R2 (s1.trans s2) ⟨v, vs, rfl, Pag.stp pa s2, Pas.back pas s1, fun q hq z => ?_⟩
      cases a with
      | lend i => exact hq
      | look i => exact hq
      | tmp c =>
        have pa : Pag M σ fd (sta ρ σ F H) ρ1 F1 H1 j (.tmp c) v := pa
        rcases Pas.fresh pas z with w | w
        · exact (pa.2.2 q hq).1.1 w
        · obtain ⟨_, o, e2, _⟩ := (pa.2.1.own hq.1).at hq.2
          rw [show H1 q = none from w] at e2; cases e2
theorem sgs'_nil {j : Nat} : PA X [] (tAs' g cl M W fd j .nil) := pa_imp pa_nil fun σ H Q ⟨ρ, F, R, p⟩ => p.ok R (Stp.refl _ _ _) rfl
theorem sgs'_cons {j : Nat} {e : Expr} {es : List Expr} {b : Bool} {m : Ex} {ms : Es} (hn : nst e = true) (he : PE X e (tA g cl M W fd j m)) (hs : PA X es (tAs' g cl M W fd (j + 1) ms)) : PA X (e :: es) (tAs' g cl M W fd j (.cons b m ms)) :=
  pa_imp (pa_cons he hs (star_of hn)) fun σ H Q ⟨ρ, F, R, p⟩ => args_step R p
theorem call_ev {f : Nat} {ms : Es} {σ : L2.St} {H : Hp} {Q : VK} {ρ : Rho} {F : Hp} (hf : g.fn f = some fd) (R : Rl M ρ σ F H) (p : Post M W σ (sta ρ σ F H) (PC M σ) Q (evE g cl (.call f ms) ρ)) :
    tAs' g cl M W fd 0 ms σ H fun vs H1 => spOf M cl f fd vs H1 Q (WE W σ) := by
  simp only [evE, hf] at p
  exact ⟨ρ, F, R, Post.bnd' p fun as ρ1 vs F1 H1 _ R1 s1 pas p => call_core R1 s1 pas p⟩
/-- what is known of a def that is called -/
structure FnAt (X : Cx) (M : Mx) (cl : Nat → List Cell → Option (R Cell)) (f : Nat) (fd : Fn) (x : Str) (ps : List Str) : Prop where
  ex : ∃ (k : Nat) (a : Addr) (fdt : FuncData), FnOk X.prog X.w X.K X.mg X.base (L2.CX X.prog X.w) k a fdt ps (spOf M cl f fd) ∧ Room k X.A ∧ X.mg x = some (.ref a) ∧ PySem.W.keepIn X.K (.ref a) = true ∧ Binds X.K fdt ps [] ∧
    ∀ (s : Shared) (us ws : List Value), X.K.In s.heap → us.length + ws.length = ps.length → BindsTo s fdt ⟨us, (ps.drop us.length).zip ws⟩ (ps.zip (us ++ ws))
theorem se_call {f : Nat} {x : Str} {ps : List Str} {e : Expr} {es : List Expr} {ms : Es} {p pos : Pos} (hf : g.fn f = some fd) (Fa : FnAt X M cl f fd x ps) (tk : Takes X W) (hg : Gl X x) (hn : nst e = true) (hpl : (backTo pos (starEach es X.env)).any (·.1) = false)
    (hdb : (x == ("__debug__" : Str)) = false) (ha : PA X (e :: es) (tAs' g cl M W fd 0 ms)) : PE X (.Call (.Name x p) (e :: es) [] pos) (tE g cl M W (.call f ms)) := by
  obtain ⟨k, a, fdt, Fo, hr, hm, hk, hb, _⟩ := Fa.ex
  exact pe_imp (pe_callS Fo hr hg hm hk hb (fun σ => passAt tk σ) ha hdb (star_of hn) hpl) fun σ H Q ⟨ρ, F, R, p⟩ => call_ev hf R p
theorem se_call0 {f : Nat} {x : Str} {ps : List Str} {p pos : Pos} (hf : g.fn f = some fd) (Fa : FnAt X M cl f fd x ps) (tk : Takes X W) (hg : Gl X x) (hdb : (x == ("__debug__" : Str)) = false) : PE X (.Call (.Name x p) [] [] pos) (tE g cl M W (.call f .nil)) := by
  obtain ⟨k, a, fdt, Fo, hr, hm, hk, hb, _⟩ := Fa.ex
  refine pe_imp (t := fun σ H Q => spOf M cl f fd [] H Q (WE W σ)) ⟨fun pins s σ H Q I h => ?_⟩ fun σ H Q ⟨ρ, F, R, p⟩ => ?_
  · refine wpAny_Call_Name_kw (ld_glob I hg hm ?_ hdb)
    exact PySem.W.callWith_K0 I.kIn hk (run_fnS (us := []) Fo hr hb (passAt tk σ) I .nil h)
  · obtain ⟨ρ1, F1, R1, p1⟩ := call_ev hf R p
    exact p1.ok R1 (Stp.refl _ _ _) rfl
theorem pk_imp {kws : List Keyword} {t t' : TA} (h : PK X kws t) (i : ∀ σ H Q, t' σ H Q → t σ H Q) : PK X kws t' := ⟨fun pos pins s σ H Q I q => h.run pos pins s σ H Q I (i σ H Q q)⟩
theorem sgk_nil {j : Nat} : PK X [] (tAs' g cl M W fd j .nil) := pk_imp pk_nil fun σ H Q ⟨ρ, F, R, p⟩ => p.ok R (Stp.refl _ _ _) rfl
theorem sgk_cons {j : Nat} {e : Expr} {nm : Option Str} {kpos : Pos} {kws : List Keyword} {b : Bool} {m : Ex} {ms : Es} (he : PE X e (tA g cl M W fd j m)) (hs : PK X kws (tAs' g cl M W fd (j + 1) ms)) : PK X (⟨nm, e, kpos⟩ :: kws) (tAs' g cl M W fd j (.cons b m ms)) :=
  pk_imp (pk_cons he hs) fun σ H Q ⟨ρ, F, R, p⟩ => args_step R p
/-- the first n arguments -/
def tPos (g : G) (cl : Nat → List Cell → Option (R Cell)) (M : Mx) (W : L2.WX) (fd : Fn) : Nat → Nat → Es → TA
  | _, 0, _ => tNil
  | j, n + 1, .cons _ m ms => tCons (tA g cl M W fd j m) (tPos g cl M W fd (j + 1) n ms)
  | _, _ + 1, .nil => fun _ _ _ => False
def dropEs : Nat → Es → Es
  | 0, ms => ms
  | n + 1, .cons _ _ ms => dropEs n ms
  | _ + 1, .nil => .nil
def lenEs : Es → Nat
  | .nil => 0
  | .cons _ _ ms => lenEs ms + 1
theorem pos_split : ∀ {n j : Nat} {ms : Es} {σ : L2.St} {H : Hp} {Q : List V → Hp → Prop}, n ≤ lenEs ms → tAs' g cl M W fd j ms σ H Q → tPos g cl M W fd j n ms σ H fun vs H1 => vs.length = n ∧ tAs' g cl M W fd (j + n) (dropEs n ms) σ H1 fun zs H2 => Q (vs ++ zs) H2
  | 0, j, ms, σ, H, Q, _, h => ⟨rfl, h⟩
  | n + 1, j, .nil, σ, H, Q, hl, _ => absurd hl (by simp [lenEs])
  | n + 1, j, .cons b m ms, σ, H, Q, hl, ⟨ρ, F, R, p⟩ => by
    have := args_step R p
    obtain ⟨ρ0, F0, R0, p0⟩ := this
    refine ⟨ρ0, F0, R0, p0.imp fun v H1 h => ?_⟩
    have := pos_split (n := n) (j := j + 1) (Nat.le_of_succ_le_succ hl) h
    rw [show j + (n + 1) = j + 1 + n by omega]
    show tPos g cl M W fd (j + 1) n ms σ H1 fun vs H2 => (v :: vs).length = n + 1 ∧ tAs' g cl M W fd (j + 1 + n) (dropEs n ms) σ H2 fun zs H3 => Q (v :: vs ++ zs) H3
    have mono : ∀ {n j : Nat} {ms : Es} {σ : L2.St} {H : Hp} {Q Q' : List V → Hp → Prop}, (∀ vs H, Q vs H → Q' vs H) → tPos g cl M W fd j n ms σ H Q → tPos g cl M W fd j n ms σ H Q' := by
      intro n
      induction n with
      | zero => intro j ms σ H Q Q' i h; unfold tPos at h ⊢; exact i _ _ h
      | succ n ih =>
        intro j ms σ H Q Q' i h
        cases ms with
        | nil => exact h
        | cons b m ms =>
          obtain ⟨ρ, F, R, p⟩ := h
          exact ⟨ρ, F, R, p.imp fun v H1 h => ih (fun vs H h => i _ _ h) h⟩
    exact mono (fun vs H2 ⟨l, h⟩ => ⟨by rw [List.length_cons, l], h⟩) this
theorem sgp_nil {j : Nat} {ms : Es} : PA X [] (tPos g cl M W fd j 0 ms) := by unfold tPos; exact pa_nil
theorem sgp_cons {j n : Nat} {e : Expr} {es : List Expr} {b : Bool} {m : Ex} {ms : Es} (hn : nst e = true) (he : PE X e (tA g cl M W fd j m)) (hs : PA X es (tPos g cl M W fd (j + 1) n ms)) : PA X (e :: es) (tPos g cl M W fd j (n + 1) (.cons b m ms)) :=
  pa_cons he hs (star_of hn)
theorem kw_some : ∀ {kws : List Keyword} {env : Env} {pos : Pos}, (kws.all fun k => k.arg.isSome) = true → (backToKw pos (keywordEach kws env)).all (·.1.isSome) = true ∧ (backToKw pos (keywordEach kws env)).any (·.1.isNone) = false ∧ (backToKw pos (keywordEach kws env)).filterMap (·.1) = kws.filterMap (·.arg)
  | [], _, _, _ => ⟨rfl, rfl, rfl⟩
  | ⟨nm, e, kp⟩ :: kws, env, pos, h => by
    simp only [List.all_cons, Bool.and_eq_true] at h
    obtain ⟨h1, h2, h3⟩ := kw_some (kws := kws) (env := env) (pos := pos) h.2
    cases nm with
    | none => cases h.1
    | some x =>
      refine ⟨?_, ?_, ?_⟩
      · show ((some x).isSome && (backToKw pos (keywordEach kws env)).all (·.1.isSome)) = true
        rw [h1]; rfl
      · show ((some x).isNone || (backToKw pos (keywordEach kws env)).any (·.1.isNone)) = false
        rw [h2]; rfl
      · show x :: (backToKw pos (keywordEach kws env)).filterMap (·.1) = x :: kws.filterMap (·.arg)
        rw [h3]
theorem run_kw {pins : List (Addr × Obj)} {σ : L2.St} {H : Hp} {s : Shared} {Q : VK} {us ws : List Value} {vs : List V} {k : Nat} {a : Addr} {fdt : FuncData} {ps ks : List Str} {sp : Sp} {E : L2.St → XK} (Fo : FnOk X.prog X.w X.K X.mg X.base (L2.CX X.prog X.w) k a fdt ps sp) (hr : Room k X.A)
    (hb : BindsTo s fdt ⟨us, ks.zip ws⟩ (ps.zip (us ++ ws))) (hx : PassesAt (L2.CX X.prog X.w) X σ (E σ)) (I : Inv X pins σ H s) (r : Vals vs (us ++ ws)) (h : sp vs H Q (E σ)) : wpAny (model X.prog X.w) X.A (call (.ref a) us (ks.zip ws)) (EP X pins σ Q) X.xe s := by
  refine wpAny_call (codeAny_mono (Fo.run X.A X.stack s H ⟨us, ks.zip ws⟩ (us ++ ws) vs Q (E σ) hr I.env0 hb r h) fun r s' hq => ?_)
  cases r with
  | error e => exact hx pins H s e s' I hq
  | ok fl =>
    cases fl with
    | ret u => exact I.after hq
    | next => exact hq.elim
    | brk => exact hq.elim
    | cont => exact hq.elim
theorem se_callK {f : Nat} {x : Str} {ps : List Str} {es : List Expr} {kws : List Keyword} {ms : Es} {p pos : Pos} (hf : g.fn f = some fd) (Fa : FnAt X M cl f fd x ps) (tk : Takes X W) (hg : Gl X x)
    (hpl : (backTo pos (starEach es X.env)).any (·.1) = false) (hdb : (x == ("__debug__" : Str)) = false) (hkw : (kws.all fun k => k.arg.isSome) = true) (hks : kws.filterMap (·.arg) = ps.drop es.length) (hl : lenEs ms = ps.length) (hle : es.length ≤ ps.length) (hst : ∀ e r, es = e :: r → nst e = true)
    (ha : PA X es (tPos g cl M W fd 0 es.length ms)) (hk : PK X kws (tAs' g cl M W fd (0 + es.length) (dropEs es.length ms))) : PE X (.Call (.Name x p) es kws pos) (tE g cl M W (.call f ms)) := by
  obtain ⟨k, a, fdt, Fo, hr, hm, hkp, _, hb⟩ := Fa.ex
  obtain ⟨h1, h2, h3⟩ := kw_some (env := X.env) (pos := pos) hkw
  refine pe_imp (t := fun σ H Q => tPos g cl M W fd 0 es.length ms σ H fun vs H1 => vs.length = es.length ∧ tAs' g cl M W fd (0 + es.length) (dropEs es.length ms) σ H1 fun zs H2 => spOf M cl f fd (vs ++ zs) H2 Q (WE W σ)) ⟨fun pins s σ H Q I h => ?_⟩ fun σ H Q ⟨ρ, F, R, p⟩ => pos_split (by rw [hl]; exact hle) (call_ev hf R p)
  refine wpAny_Call_Name_kw (ld_glob I hg hm ?_ hdb)
  have fin : ∀ {s1 s2 : Shared} {vs zs : List V} {us ws : List Value} {H1 H2 : Hp}, Inv X pins σ H2 s2 → Vals vs us → vs.length = es.length → Vals zs ws → spOf M cl f fd (vs ++ zs) H2 Q (WE W σ) →
      X.K.In s2.heap ∧ wpAny (model X.prog X.w) X.A (call (.ref a) us (((backToKw pos (keywordEach kws X.env)).filterMap (·.1)).zip ws)) (EP X pins σ Q) X.xe s2 := fun {s1 s2 vs zs us ws H1 H2} I2 r l rz q => by
    refine ⟨I2.kIn, ?_⟩
    rw [h3, hks]
    have r2 := r.append rz
    have hlen := Fo.len _ _ _ _ q
    have hus : us.length = es.length := by rw [← r.length, l]
    have hb' := hb s2 us ws I2.kIn (by rw [← r.length, ← rz.length, ← List.length_append, hlen])
    rw [hus] at hb'
    exact run_kw Fo hr hb' (passAt tk σ) I2 r2 q
  cases es with
  | nil =>
    refine PySem.W.callWith_KW0 (h₀ := X.base) I.ok.mod.kin hkp h1 ?_ (by show (false || _) = false; rw [h2]; rfl)
    have h : ([] : List V).length = 0 ∧ tAs' g cl M W fd (0 + 0) (dropEs 0 ms) σ H fun zs H2 => spOf M cl f fd ([] ++ zs) H2 Q (WE W σ) := by
      simp only [List.length_nil] at h
      unfold tPos at h
      exact ⟨rfl, h.2⟩
    refine thn (hk.run pos pins s σ H _ I h.2) fun ws s2 ⟨zs, H2, I2, rz, q2⟩ => ?_
    exact fin (s1 := s) (H1 := H) (vs := []) (us := []) I2 .nil rfl rz q2
  | cons e r =>
    have hn := hst e r rfl
    refine PySem.W.callWith_KW (h₀ := X.base) I.ok.mod.kin hkp h1 (thn (ha.run pos pins s σ H _ I h) fun us s1 ⟨vs, H1, I1, rv, l, q⟩ => ?_) (by rw [hpl, h2]; rfl) (star_of hn)
    exact thn (hk.run pos pins s1 σ H1 _ I1 q) fun ws s2 ⟨zs, H2, I2, rz, q2⟩ => fin (s1 := s1) (H1 := H1) I2 rv l rz q2
end
end Ev
end

section
set_option maxHeartbeats 0
namespace Ev
open PySem PySem.Spec PyProof.Rows L2

section
variable (M : Mx) (W : L2.WX) (pr : List Nat) (σ0 : L2.St) (S : Sta) (D : Ends)
def Kp (σ' : L2.St) : Prop := ∀ i, pr.contains i = true → σ'[i]? = σ0[i]?
/-- the end of a statement -/
def PostO : Option O → Prop
  | some (.nx ρ') => ∀ σ' F' H', Rl M ρ' σ' F' H' → Stp S.O S.F S.H (Fo ρ' σ') F' H' → Kp pr σ0 σ' → D.nx σ' H'
  | some (.bk ρ') => ∀ σ' F' H', Rl M ρ' σ' F' H' → Stp S.O S.F S.H (Fo ρ' σ') F' H' → Kp pr σ0 σ' → D.bk σ' H'
  | some (.ct ρ') => ∀ σ' F' H', Rl M ρ' σ' F' H' → Stp S.O S.F S.H (Fo ρ' σ') F' H' → Kp pr σ0 σ' → D.ct σ' H'
  | some (.rt c ρ') => ∀ v σ' F' H', Rl M ρ' σ' F' H' → Stp S.O S.F S.H (Fo ρ' σ') F' H' → Kp pr σ0 σ' → PC M σ' S ρ' F' H' c v → D.rt v H'
  | some (.ex x ρ') => ∀ cls dx σ' F' H', Rl M ρ' σ' F' H' → Stp S.O S.F S.H (Fo ρ' σ') F' H' → Kp pr σ0 σ' → RepX M F' H' x cls dx → W cls dx σ' H'
  | none => False
end
section
variable {M : Mx} {W : L2.WX} {pr : List Nat} {σ0 σ1 : L2.St} {S S1 : Sta} {D D' : Ends} {α β : Type}
theorem Kp.refl : Kp pr σ0 σ0 := fun _ _ => rfl
theorem Kp.trans {σ2 : L2.St} (a : Kp pr σ0 σ1) (b : Kp pr σ1 σ2) : Kp pr σ0 σ2 := fun i h => (b i h).trans (a i h)
theorem PostO.shift {r : Option O} (h : PostO M W pr σ0 S D r) (s : Stp S.O S.F S.H S1.O S1.F S1.H) (k : Kp pr σ0 σ1) : PostO M W pr σ1 S1 D r := by
  match r, h with
  | some (.nx ρ'), h => exact fun σ' F' H' R s' k' => h σ' F' H' R (s.trans s') (k.trans k')
  | some (.bk ρ'), h => exact fun σ' F' H' R s' k' => h σ' F' H' R (s.trans s') (k.trans k')
  | some (.ct ρ'), h => exact fun σ' F' H' R s' k' => h σ' F' H' R (s.trans s') (k.trans k')
  | some (.rt c ρ'), h => exact fun v σ' F' H' R s' k' pc => h v σ' F' H' R (s.trans s') (k.trans k') (bk_PC S S1 ρ' F' H' c v s pc)
  | some (.ex x ρ'), h => exact fun cls dx σ' F' H' R s' k' rx => h cls dx σ' F' H' R (s.trans s') (k.trans k') rx
theorem PostO.ends {r : Option O} (h : PostO M W pr σ0 S D r) (h1 : ∀ ρ', r = some (.nx ρ') → PostO M W pr σ0 S D' (some (.nx ρ'))) (h2 : ∀ ρ', r = some (.bk ρ') → PostO M W pr σ0 S D' (some (.bk ρ'))) (h3 : ∀ ρ', r = some (.ct ρ') → PostO M W pr σ0 S D' (some (.ct ρ')))
    (h4 : D'.rt = D.rt) : PostO M W pr σ0 S D' r := by
  match r, h with
  | some (.nx ρ'), h => exact h1 ρ' rfl
  | some (.bk ρ'), h => exact h2 ρ' rfl
  | some (.ct ρ'), h => exact h3 ρ' rfl
  | some (.rt c ρ'), h =>
    show ∀ v σ' F' H', _ → _ → _ → _ → D'.rt v H'
    rw [h4]; exact h
  | some (.ex x ρ'), h => exact h
theorem PostO.bnd {P : Pr α β} {Q : β → Hp → Prop} {x : Option (R α)} {f : α → Rho → Option O} (h : PostO M W pr σ0 S D (bnO x f))
    (k : ∀ a ρ1 b F1 H1, x = some (.ok a ρ1) → Rl M ρ1 σ0 F1 H1 → Sp' S ρ1 σ0 F1 H1 → P S ρ1 F1 H1 a b → PostO M W pr σ0 S D (f a ρ1) → Q b H1) : Post M W σ0 S P Q x := by
  match x, h with
  | some (.ok a ρ'), h => exact fun b F' H' R s' p => k a ρ' b F' H' rfl R s' p h
  | some (.exc x ρ'), h => exact fun cls dx F' H' R s' rx => h cls dx σ0 F' H' R s' .refl rx
theorem PostO.map {r : Option Rho} (h : PostO M W pr σ0 S D (r.map .nx)) : ∃ ρ', r = some ρ' ∧ ∀ σ' F' H', Rl M ρ' σ' F' H' → Stp S.O S.F S.H (Fo ρ' σ') F' H' → Kp pr σ0 σ' → D.nx σ' H' := by
  cases r with
  | none => exact h.elim
  | some ρ' => exact ⟨ρ', rfl, h⟩
end
section
variable (g : G) (cl : Nat → List Cell → Option (R Cell)) (M : Mx) (W : L2.WX) (n : Nat) (pr : List Nat)
def tS (m : St) : TS := fun D σ H => ∃ ρ F, Rl M ρ σ F H ∧ PostO M W pr σ (sta ρ σ F H) D (evS g cl n pr m ρ)
def tSs (m : Ss) : TS := fun D σ H => ∃ ρ F, Rl M ρ σ F H ∧ PostO M W pr σ (sta ρ σ F H) D (evSs g cl n pr m ρ)
end
theorem ps_imp {X : Cx} {st : Stmt} {t t' : TS} (h : PS X st t) (i : ∀ D σ H, t' D σ H → t D σ H) : PS X st t' := ⟨fun pins s σ H D I q => h.run pins s σ H D I (i D σ H q)⟩
theorem pss_imp {X : Cx} {st : List Stmt} {t t' : TS} (h : PSs X st t) (i : ∀ D σ H, t' D σ H → t D σ H) : PSs X st t' := ⟨fun pins s σ H D I q => h.run pins s σ H D I (i D σ H q)⟩
section
variable {g : G} {cl : Nat → List Cell → Option (R Cell)} {M : Mx} {W : L2.WX} {X : Cx} {n : Nat} {pr : List Nat}
theorem sss_nil : PSs X [] (tSs g cl M W n pr .nil) := pss_imp pss_nil fun D σ H ⟨ρ, F, R, p⟩ => p σ F H R (Stp.refl _ _ _) .refl
theorem sss_cons {st : Stmt} {r : List Stmt} {m : St} {ms : Ss} (h1 : PS X st (tS g cl M W n pr m)) (h2 : PSs X r (tSs g cl M W n pr ms)) : PSs X (st :: r) (tSs g cl M W n pr (.cons m ms)) := by
  refine pss_imp (pss_cons h1 h2) fun D σ H ⟨ρ, F, R, p⟩ => ⟨ρ, F, R, ?_⟩
  simp only [evSs] at p
  cases hx : evS g cl n pr m ρ with
  | none => rw [hx] at p; exact p.elim
  | some o =>
    rw [hx] at p
    cases o with
    | nx ρ' => exact fun σ' F' H' R' s' k => ⟨ρ', F', R', p.shift s' k⟩
    | rt c ρ' => exact p
    | bk ρ' => exact p
    | ct ρ' => exact p
    | ex x ρ' => exact p
theorem ss_stk {st : Stmt} : PS X st (tS g cl M W n pr .stk) := ps_imp ps_never fun D σ H ⟨ρ, F, R, p⟩ => by
  simp only [evS] at p
  exact p.elim
theorem ss_pass {st : Stmt} (h : PS X st tNext) : PS X st (tS g cl M W n pr .pass) := ps_imp h fun D σ H ⟨ρ, F, R, p⟩ => by
  simp only [evS] at p
  exact p σ F H R (Stp.refl _ _ _) .refl
theorem ss_brk {pos : Pos} : PS X (.Break pos) (tS g cl M W n pr .brk) := ps_imp ps_break fun D σ H ⟨ρ, F, R, p⟩ => by
  simp only [evS] at p
  exact p σ F H R (Stp.refl _ _ _) .refl
theorem ss_cont {pos : Pos} : PS X (.Continue pos) (tS g cl M W n pr .cont) := ps_imp ps_continue fun D σ H ⟨ρ, F, R, p⟩ => by
  simp only [evS] at p
  exact p σ F H R (Stp.refl _ _ _) .refl
theorem ss_ex {e : Expr} {m : Ex} {pos : Pos} (he : PE X e (tE g cl M W m)) (hs : swapsWith e none pos.line X.env = pure false) : PS X (.Expr e pos) (tS g cl M W n pr (.ex m)) := by
  refine ps_imp (ps_expr he hs) fun D σ H ⟨ρ, F, R, p⟩ => ⟨ρ, F, R, ?_⟩
  simp only [evS] at p
  exact PostO.bnd p fun c ρ1 v F1 H1 _ R1 s1 pc p => p σ F1 H1 R1 s1 .refl
/-- name = e -/
theorem set_step {i : Nat} {c : Cell} {v : V} {ρ ρ' : Rho} {σ : L2.St} {F H : Hp} {S : Sta} {D : Ends} (R : Rl M ρ σ F H) (s : Sp' S ρ σ F H) (pc : PC M σ S ρ F H c v) (h : setC pr i c ρ = some ρ')
    (p : ∀ σ' F' H', Rl M ρ' σ' F' H' → Stp S.O S.F S.H (Fo ρ' σ') F' H' → Kp pr σ σ' → D.nx σ' H') : D.nx (σ.set i (some v)) H := by
  unfold setC at h
  split at h
  · cases h
  · rename_i hi
    simp only [Bool.or_eq_true, Bool.not_eq_true', not_or, Bool.not_eq_true, decide_eq_false_iff_not, Decidable.not_not] at hi
    cases h
    obtain ⟨R', h1, h2⟩ := R.put1 (i := i) pc.1 pc.2.1 fun a ha => (pc.2.2 a ha).1
    refine p _ F H R' ⟨s.mono, s.keep, s.stay, fun a z => ?_, fun j z => s.see j (h2 j z).2⟩ fun j hj => ?_
    · rcases h1 a z with z | z
      · exact s.fresh a z
      · exact (pc.2.2 a z).2
    · refine List.getElem?_set_ne fun z => ?_
      subst z
      rw [hi.1] at hj; cases hj
theorem ss_set {st : Stmt} {m : Ex} {i : Nat} (h : PS X st (tAsg (tE g cl M W m) (gName i))) : PS X st (tS g cl M W n pr (.set (.name i) m)) := by
  refine ps_imp h fun D σ H ⟨ρ, F, R, p⟩ => ⟨ρ, F, R, ?_⟩
  simp only [evS] at p
  refine PostO.bnd p fun c ρ1 v F1 H1 _ R1 s1 pc p => ?_
  obtain ⟨ρ', h', p⟩ := p.map
  exact set_step R1 s1 pc h' p
theorem postO_bndF {pr : List Nat} {σ0 : L2.St} {S : Sta} {De : Ends} {Q : VK} {x : Option (R Cell)} {f : Cell → Rho → Option O} (h : PostO M W pr σ0 S De (bnO x f))
    (k : ∀ (c : Cell) ρ1 b F1 H1, x = some (.ok c ρ1) → Rl M ρ1 σ0 F1 H1 → Sp' S ρ1 σ0 F1 H1 → RepF M F1 c.d b → PostO M W pr σ0 S De (f c ρ1) → Q b H1) : Post M W σ0 S (PF M) Q (bnd x fun c ρ => some (.ok c.d ρ)) := by
  match x, h with
  | some (.ok a ρ'), h =>
    intro b F' H' R s' p
    exact k a ρ' b F' H' rfl R s' p h
  | some (.exc x ρ'), h => exact fun cls dx F' H' R s' rx => h cls dx σ0 F' H' R s' .refl rx
theorem ss_tup {st : Stmt} {m : Ex} {ts : List Tg} (h : PS X st (tAsg (tF g cl M W m) (gT M (.tup ts)))) : PS X st (tS g cl M W n pr (.set (.tup ts) m)) := by
  refine ps_imp h fun D σ H ⟨ρ, F, R, p⟩ => ⟨ρ, F, R, ?_⟩
  simp only [evS] at p
  refine postO_bndF p fun c ρ1 v F1 H1 _ R1 s1 pd p => ?_
  obtain ⟨ρ', h', p⟩ := p.map
  unfold asgC at h'
  simp only at h'
  split at h'
  · cases h'
  · rename_i hpr
    refine ⟨ρ1, F1, c.d, ρ', R1, pd, h', fun σ' R' a' => p σ' F1 H1 R' (s1.trans a'.stp) fun j hj => (a'.out j fun z => ?_).1⟩
    apply hpr
    refine List.any_eq_true.mpr ⟨j, ?_, hj⟩
    simpa only [tgs] using z
theorem updC_own {i : Nat} {f : Cell → Option Cell} {ρ : Rho} {o : O} (h : updC i f ρ = some o) : ∃ c c', ρ[i]? = some (some c) ∧ isOwn c = true ∧ f c = some c' ∧ o = .nx (ρ.set i (some c')) := by
  unfold updC at h
  split at h
  · split at h
    · obtain ⟨c', h1, h2⟩ := Option.map_eq_some_iff.mp h
      exact ⟨_, c', by assumption, by assumption, h1, h2.symm⟩
    · cases h
  · cases h
/-- xs[k] = e -/
theorem ss_setix {st : Stmt} {m k : Ex} {i : Nat} (h : PS X st (tAsg (tF g cl M W m) (gSub (tVar i) (tE g cl M W k) rSetL))) : PS X st (tS g cl M W n pr (.setix i k m)) := by
  refine ps_imp h fun D σ H ⟨ρ, F, R, p⟩ => ⟨ρ, F, R, ?_⟩
  simp only [evS] at p
  split at p
  · exact p.elim
  · rename_i hi
    have hi : isLst ρ i = true := by simpa using hi
    obtain ⟨l0, hl0⟩ := isLst_some hi
    obtain ⟨a, vs0, ev, q0, r0⟩ := R.own hl0
    refine postO_bndF p fun c ρ1 v F1 H1 _ R1 s1 pd p => ⟨.ref a, ev, ρ1, F1, R1, ?_⟩
    have p := p.shift (S1 := sta ρ1 σ F1 H1) s1 (Kp.refl (σ0 := σ))
    refine PostO.bnd p fun kc ρ2 kv F2 H2 _ R2 s2 pk p => ?_
    cases hu : updC i (fun x => setIx x kc.d c.d) ρ2 with
    | none => rw [hu] at p; exact p.elim
    | some o =>
      rw [hu] at p
      obtain ⟨c0, c', e1, o1, hf, rfl⟩ := updC_own hu
      unfold setIx at hf
      split at hf
      · rename_i l k' hk'
        split at hf
        · rename_i j hj
          cases hf
          obtain ⟨a1, vs, ev1, q, r⟩ := R2.own e1
          rw [ev] at ev1; cases ev1
          have hk := pk.2.1.view
          rw [hk'] at hk
          obtain ⟨R', s'⟩ := R2.put e1 ev (r.set (RepF.mono s2.mono _ _ pd) j)
          exact ⟨a, vs, k', j, rfl, hk.int, q, by rw [← r.len]; exact hj, p σ F2 _ R' (s2.trans s') .refl⟩
        · cases hf
      · cases hf
/-- xs.append(e) -/
theorem ss_app {st : Stmt} {m : Ex} {i : Nat} (h : PS X st (tDrop (tBM X.K "list" rAppend (tVar i) (tCons (tF g cl M W m) tNil)))) : PS X st (tS g cl M W n pr (.app i m)) := by
  refine ps_imp h fun D σ H ⟨ρ, F, R, p⟩ => ?_
  simp only [evS] at p
  split at p
  · exact p.elim
  · rename_i hi
    have hi : isLst ρ i = true := by simpa using hi
    obtain ⟨l0, hl0⟩ := isLst_some hi
    obtain ⟨a, vs0, ev, q0, r0⟩ := R.own hl0
    refine ⟨.ref a, ev, R.tyL hi ev, ρ, F, R, ?_⟩
    refine postO_bndF p fun c ρ1 v F1 H1 _ R1 s1 pd p => ?_
    cases hu : updC i (fun x => appC x c.d) ρ1 with
    | none => rw [hu] at p; exact p.elim
    | some o =>
      rw [hu] at p
      obtain ⟨c0, c', e1, o1, hf, rfl⟩ := updC_own hu
      unfold appC at hf
      split at hf
      · rename_i l
        split at hf
        · rename_i hz
          cases hf
          obtain ⟨a1, vs, ev1, q, r⟩ := R1.own e1
          rw [ev] at ev1; cases ev1
          obtain ⟨R', s'⟩ := R1.put e1 ev (r.app (RepsF.cons pd RepsF.nil))
          exact ⟨a, vs, v, rfl, rfl, q, by rw [← r.len]; exact hz, p σ F1 _ R' (s1.trans s') .refl⟩
        · cases hf
      · cases hf
theorem app_ps {o e : Expr} {i : Nat} {m : Ex} {apos cpos pos : Pos} (ho : PE X o (tVar i)) (he : PE X e (tE g cl M W m)) (hn : nst e = true) (hbase : attributeBase o "append" X.env (eval o X.env) = eval o X.env) (hline : (apos.endLine == cpos.line) = true)
    (hfew : ((backTo cpos (starEach [e] X.env)).all (fun x => !x.1) && (backToKw cpos (keywordEach [] X.env)).all (fun x => x.1.isSome)
      && decide ([e].length + ([] : List Keyword).length + (if ([] : List Keyword).isEmpty then 0 else 1) < 30)) = true) (hs : swapsWith (.Call (.Attribute o "append" apos) [e] [] cpos) none pos.line X.env = pure false) :
    PS X (.Expr (.Call (.Attribute o "append" apos) [e] [] cpos) pos) (tS g cl M W n pr (.app i m)) :=
  ss_app (ps_expr (pe_bm F.plainAttrs_list F.slot_list_append F.type_list_append (fun pins s σ H x xs v us Q I rx rv h => mt_append pins s σ H x xs v us Q I rx rv h) ho (pa_cons (sf_of he) pa_nil (star_of hn)) hbase hfew hline (star_of hn) rfl) hs)
theorem ss_ret {e : Expr} {m : Ex} {pos : Pos} (h : ∀ i, m ≠ .var i) (he : PE X e (tE g cl M W m)) : PS X (.Return (some e) pos) (tS g cl M W n pr (.ret m)) := by
  refine ps_imp (ps_ret he) fun D σ H ⟨ρ, F, R, p⟩ => ⟨ρ, F, R, ?_⟩
  simp only [evS] at p
  have e1 : mov m (evE g cl m ρ) ρ = evE g cl m ρ := by cases m <;> first | rfl | exact absurd rfl (h _)
  rw [e1] at p
  exact PostO.bnd p fun c ρ1 v F1 H1 _ R1 s1 pc p => p v σ F1 H1 R1 s1 .refl pc
/-- what is its own goes out -/
theorem ret_own {i : Nat} {c0 : Cell} {D : Ends} {σ : L2.St} {ρ : Rho} {F H : Hp} (R : Rl M ρ σ F H) (hd : ρ[i]? = some (some c0)) (ho : isOwn c0 = true) (hn : nv c0) (p : PostO M W pr σ (sta ρ σ F H) D (some (.rt c0 (ρ.set i none)))) : tRet (tVar i) D σ H := by
  obtain ⟨v, ev, r0⟩ := R.cell i _ hd
  obtain ⟨a, o, rfl, n0, q, r⟩ := r0.own ho
  have less : ∀ (j : Nat) (c : Cell), (ρ.set i none)[j]? = some (some c) → ρ[j]? = some (some c) ∧ σ[j]? = σ[j]? := fun j c e => by
    by_cases hj : j = i
    · subst hj
      rw [List.getElem?_set_self (List.getElem?_eq_some_iff.mp hd).1] at e; cases e
    · rw [List.getElem?_set_ne (Ne.symm hj)] at e
      exact ⟨e, rfl⟩
  have R' : Rl M (ρ.set i none) σ F H := R.less (by rw [List.length_set]; exact R.len) less
  refine ⟨.ref a, ev, p (.ref a) σ F H R' ⟨Ev.le.refl F, fun _ _ e _ => ⟨e, fun x => x⟩, fun _ h => h, fun b z => .inl (ow_less less z), fun j ⟨d, e⟩ => ⟨d, (less j _ e).1⟩⟩ .refl ⟨hn, r0, fun b hb => ?_⟩⟩
  cases hb.2
  refine ⟨⟨fun ⟨j, c, e, o, s⟩ => ?_, fun ⟨j, d, e, s⟩ => ?_⟩, .inl ⟨i, _, hd, ho, ev⟩⟩
  · have := R.dis j i c _ a (less j c e).1 hd o ho s ev
    subst this
    rw [List.getElem?_set_self (List.getElem?_eq_some_iff.mp hd).1] at e; cases e
  · exact R.vw j d a (less j _ e).1 s ⟨i, _, hd, ho, ev⟩
theorem ss_retv {e : Expr} {i : Nat} {pos : Pos} (he : PE X e (tVar i)) : PS X (.Return (some e) pos) (tS g cl M W n pr (.ret (.var i))) := by
  refine ps_imp (ps_ret he) fun D σ H ⟨ρ, F, R, p⟩ => ?_
  simp only [evS, mov] at p
  split at p
  · rename_i d hd
    obtain ⟨v, ev, r⟩ := R.cell i _ hd
    exact ⟨v, ev, p v σ F H R (Stp.refl _ _ _) .refl ⟨trivial, r, fun a h => absurd h.1 (by simp [isOwn])⟩⟩
  · rename_i ds hd
    exact ret_own R hd rfl trivial p
  · rename_i ks ds hd
    exact ret_own R hd rfl trivial p
  · exact p.elim
theorem ss_retN {pos : Pos} : PS X (.Return none pos) (tS g cl M W n pr (.ret (.k .non))) := by
  refine ps_imp ps_retN fun D σ H ⟨ρ, F, R, p⟩ => ?_
  simp only [evS, mov, evE] at p
  exact p .non σ F H R (Stp.refl _ _ _) .refl ⟨trivial, rfl, fun a h => absurd h.1 (by simp [isOwn])⟩
theorem ss_if {c : Expr} {a b : List Stmt} {mc : Ex} {ma mb : Ss} {pos : Pos} (hc : PT X c (tT g cl M W mc)) (ha : PSs X a (tSs g cl M W n pr ma)) (hb : PSs X b (tSs g cl M W n pr mb)) : PS X (.If c a b pos) (tS g cl M W n pr (.ife mc ma mb)) := by
  refine ps_imp (ps_if hc ha hb) fun D σ H ⟨ρ, F, R, p⟩ => ⟨ρ, F, R, ?_⟩
  simp only [evS] at p
  refine PostO.bnd p fun t ρ1 t' F1 H1 _ R1 s1 pt p => ?_
  cases pt
  cases t with
  | true => exact ⟨ρ1, F1, R1, p.shift s1 .refl⟩
  | false => exact ⟨ρ1, F1, R1, p.shift s1 .refl⟩
theorem ss_whl {c : Expr} {b : List Stmt} {mc : Ex} {mb : Ss} {pos : Pos} (hp : PassesOwn (model X.prog X.w) X.A X.env X.xe) (hc : PT X c (tT g cl M W mc)) (hb : PSs X b (tSs g cl M W n pr mb)) : PS X (.While c b [] pos) (tS g cl M W n pr (.whl mc mb)) := by
  refine ps_imp (ps_while hp hc hb) fun D σ0 H0 ⟨ρ0, F0, R0, p0⟩ => ?_
  simp only [evS] at p0
  refine ⟨fun m σ H => ∃ ρ F, Rl M ρ σ F H ∧ PostO M W pr σ (sta ρ σ F H) D (whlL (fun ρ => tst g cl mc ρ) (fun ρ => evSs g cl n pr mb ρ) m ρ), ⟨n, ρ0, F0, R0, p0⟩, ?_⟩
  rintro m σ H ⟨ρ, F, R, p⟩
  cases m with
  | zero => simp only [whlL] at p; exact p.elim
  | succ m =>
    simp only [whlL] at p
    refine ⟨ρ, F, R, PostO.bnd p fun t ρ1 t' F1 H1 _ R1 s1 pt p => ?_⟩
    cases pt
    cases t with
    | false => exact p σ F1 H1 R1 s1 .refl
    | true =>
      rw [if_pos rfl] at p ⊢
      have p := p.shift (S1 := sta ρ1 σ F1 H1) s1 (Kp.refl (σ0 := σ))
      refine ⟨fun σ' H' => ∃ ρ F, Rl M ρ σ' F H' ∧ PostO M W pr σ' (sta ρ σ' F H') D (whlL (fun ρ => tst g cl mc ρ) (fun ρ => evSs g cl n pr mb ρ) m ρ), fun σ' H' h => ⟨m, Nat.lt_succ_self m, h⟩, ρ1, F1, R1, ?_⟩
      cases hx : evSs g cl n pr mb ρ1 with
      | none => rw [hx] at p; exact p.elim
      | some o =>
        rw [hx] at p
        cases o with
        | nx ρ' => exact fun σ' F' H' R' s' k => ⟨ρ', F', R', p.shift s' k⟩
        | ct ρ' => exact fun σ' F' H' R' s' k => ⟨ρ', F', R', p.shift s' k⟩
        | bk ρ' => exact p
        | rt c ρ' => exact p
        | ex x ρ' => exact p
theorem frzO_at {ls : List Nat} {ρ ρ' : Rho} {σ : L2.St} {F H : Hp} (R : Rl M ρ σ F H) (h : frzO (ls.map .at_) ρ = some ρ') : ∃ F', Rl M ρ' σ F' H ∧ Stp (Fo ρ σ) F H (Fo ρ' σ) F' H ∧ (∀ (k : Nat) (c : Cell), ρ'[k]? = some (some c) → isOwn c = true → k ∉ ls ∧ ρ[k]? = some (some c)) := by
  induction ls generalizing ρ F with
  | nil =>
    simp only [List.map_nil, frzO, Option.some.injEq] at h
    subst h
    exact ⟨F, R, Stp.refl _ _ _, fun k c e o => ⟨by simp, e⟩⟩
  | cons i ls ih =>
    simp only [List.map_cons, frzO] at h
    split at h
    · rename_i d hd
      obtain ⟨F', R', s', k'⟩ := ih R h
      refine ⟨F', R', s', fun k c e o => ?_⟩
      obtain ⟨h1, h2⟩ := k' k c e o
      refine ⟨fun z => ?_, h2⟩
      rcases List.mem_cons.mp z with z | z
      · subst z; rw [hd] at h2; cases h2; cases o
      · exact h1 z
    · rename_i c0 hv hd
      have step : ∃ F1, Rl M (ρ.set i (some (.fz c0.d))) σ F1 H ∧ Stp (Fo ρ σ) F H (Fo (ρ.set i (some (.fz c0.d))) σ) F1 H := by
        cases c0 with
        | fz d =>
          have e : ρ.set i (some (.fz d)) = ρ := by
            have hi := (List.getElem?_eq_some_iff.mp hd)
            exact List.ext_getElem? fun j => by
              by_cases hj : j = i
              · subst hj; rw [List.getElem?_set_self hi.1, hd]
              · rw [List.getElem?_set_ne (Ne.symm hj)]
          rw [show (Cell.fz d).d = d from rfl, e]
          exact ⟨F, R, Stp.refl _ _ _⟩
        | vw d => exact absurd rfl (hv d)
        | lst ds =>
          obtain ⟨a, o, _, _, _, R1, s1⟩ := R.freeze hd rfl
          exact ⟨_, R1, s1⟩
        | dic ks ds =>
          obtain ⟨a, o, _, _, _, R1, s1⟩ := R.freeze hd rfl
          exact ⟨_, R1, s1⟩
      obtain ⟨F1, R1, s1⟩ := step
      obtain ⟨F', R', s', k'⟩ := ih R1 h
      refine ⟨F', R', s1.trans s', fun k c e o => ?_⟩
      obtain ⟨h1, h2⟩ := k' k c e o
      by_cases hk : k = i
      · subst hk
        rw [List.getElem?_set_self (List.getElem?_eq_some_iff.mp hd).1] at h2
        cases h2; cases o
      · rw [List.getElem?_set_ne (Ne.symm hk)] at h2
        exact ⟨by simp [hk, h1], h2⟩
    · cases h
theorem ss_for {tgt iter : Expr} {b : List Stmt} {t : Tg} {it : Iter} {mb : Ss} {pos : Pos} (hp : PassesOwn (model X.prog X.w) X.A X.env X.xe) (hc : X.calm = true) (hi : PI X tgt iter (tI g cl M W it)) (hg : PG X tgt (gT M t)) (hb : PSs X b (tSs g cl M W n pr mb))
    (hs : ∀ x, foldedSetIterable iter X.env x = pure x) : PS X (.For tgt iter b [] pos) (tS g cl M W n pr (.for_ t it mb)) := by
  refine ps_imp (ps_for hp hc hi hg hb hs) fun D σ0 H0 ⟨ρ0, F0, R0, p0⟩ => ⟨ρ0, F0, R0, ?_⟩
  simp only [evS] at p0
  refine PostO.bnd p0 fun r ρ1 J F1 H1 _ R1 s1 ⟨has, A, wk⟩ p => ?_
  split at p
  · exact p.elim
  · rename_i hpr
    split at p
    · rename_i ρ2 hf
      obtain ⟨F2, R2, s2, k2⟩ := frzO_at R1 hf
      have p := p.shift (S1 := sta ρ2 σ0 F2 H1) (s1.trans s2) (Kp.refl (σ0 := σ0))
      refine ⟨fun k m σ H => ∃ ρ F, m = r.1.length - k ∧ k ≤ r.1.length ∧ Rl M ρ σ F H ∧ Stp (Fo ρ2 σ0) F2 H1 (Fo ρ σ) F H ∧ PostO M W pr σ (sta ρ σ F H) D (forL (fun d ρ => match asg t d ρ with | some ρ => evSs g cl n pr mb ρ | none => none) (r.1.drop k) ρ),
        ⟨r.1.length, ρ2, F2, rfl, Nat.zero_le _, R2, Stp.refl _ _ _, by rw [List.drop_zero]; exact p⟩, ?_⟩
      rintro k m σ H ⟨ρ, F, rfl, hk, R, st, p⟩
      have hhas : has H := wk.keep H1 H wk.now fun a ha o e => (st.keep a o e fun ⟨j, c, e1, o1, es⟩ => by
        obtain ⟨h1, h2⟩ := k2 j c e1 o1
        exact h1 (wk.adr a ha j c h2 o1 es)).1
      by_cases hlt : k < r.1.length
      · refine .inr ⟨wk.go k H hhas hlt, fun σ' H' => ∃ ρ F, Rl M ρ σ' F H' ∧ Stp (Fo ρ2 σ0) F2 H1 (Fo ρ σ') F H' ∧ PostO M W pr σ' (sta ρ σ' F H') D (forL (fun d ρ => match asg t d ρ with | some ρ => evSs g cl n pr mb ρ | none => none) (r.1.drop (k + 1)) ρ),
          fun σ' H' ⟨ρ', F', h1, h2, h3⟩ => ⟨r.1.length - (k + 1), by omega, ρ', F', rfl, hlt, h1, h2, h3⟩, fun x H' hy => ?_⟩
        obtain ⟨d, F', hd, g1, g2, g3, g4, rd⟩ := wk.yld k H x H' F hhas hlt (s2.mono.trans st.mono) R.le hy
        obtain ⟨Rn, sn⟩ := R.new g1 g2 g3 g4
        rw [List.drop_eq_getElem_cons hlt] at p
        have hd' : r.1[k] = d := by
          rw [List.getElem?_eq_getElem hlt] at hd
          exact Option.some.inj hd
        rw [hd'] at p
        simp only [forL] at p
        cases ha : asg t d ρ with
        | none => rw [ha] at p; exact p.elim
        | some ρ3 =>
          rw [ha] at p
          refine ⟨ρ, F', d, ρ3, Rn, rd, ha, fun σ3 R3 a3 => ⟨ρ3, F', R3, ?_⟩⟩
          have hkp : Kp pr σ σ3 := fun j hj => (a3.out j fun z => by
            apply hpr
            exact List.any_eq_true.mpr ⟨j, z, hj⟩).1
          have s3 : Stp (Fo ρ σ) F H (Fo ρ3 σ3) F' H' := sn.trans a3.stp
          have p := p.shift (S1 := sta ρ3 σ3 F' H') s3 hkp
          cases hx : evSs g cl n pr mb ρ3 with
          | none => simp only [hx] at p; exact p.elim
          | some o =>
            simp only [hx] at p
            cases o with
            | nx ρ4 => exact fun σ4 F4 H4 R4 s4 k4 => ⟨ρ4, F4, R4, (st.trans s3).trans s4, p.shift s4 k4⟩
            | ct ρ4 => exact fun σ4 F4 H4 R4 s4 k4 => ⟨ρ4, F4, R4, (st.trans s3).trans s4, p.shift s4 k4⟩
            | bk ρ4 => exact p
            | rt c ρ4 => exact p
            | ex x ρ4 => exact p
      · have e : k = r.1.length := by omega
        subst e
        rw [List.drop_length] at p
        simp only [forL] at p
        exact .inl ⟨wk.stop H hhas, p σ F H R (Stp.refl _ _ _) .refl⟩
    · exact p.elim
end
end Ev
end

section
set_option maxHeartbeats 0
namespace Ev
open PySem PySem.Spec PyProof.Rows L2

/-- cells at hand, each of its own -/
def clOwn : List Cell → List V → Addr → Prop
  | c :: cs, v :: vs, p => owns c v p ∨ clOwn cs vs p
  | _, _, _ => False
def Pcl (M : Mx) (σ : L2.St) (S : Sta) (ρ : Rho) (F H : Hp) : List Cell → List V → Prop
  | [], vs => vs = []
  | c :: cs, vs => ∃ v r, vs = v :: r ∧ PC M σ S ρ F H c v ∧ Pcl M σ S ρ F H cs r ∧ ∀ p, owns c v p → ¬ clOwn cs r p
def PCs (M : Mx) (σ : L2.St) : Pr (List Cell) (List V) := fun S ρ' F' H' cs vs => Pcl M σ S ρ' F' H' cs vs
section
variable {M : Mx} {σ : L2.St} {S S1 : Sta} {ρ : Rho} {F H : Hp}
theorem Pcl.back : ∀ {cs : List Cell} {vs : List V}, Pcl M σ S1 ρ F H cs vs → Stp S.O S.F S.H S1.O S1.F S1.H → Pcl M σ S ρ F H cs vs
  | [], _, h, _ => h
  | c :: cs, _, ⟨v, r, e, p, h, no⟩, s => ⟨v, r, e, bk_PC S S1 ρ F H c v s p, Pcl.back h s, no⟩
theorem Pcl.fresh : ∀ {cs : List Cell} {vs : List V} {p : Addr}, Pcl M σ S ρ F H cs vs → clOwn cs vs p → S.O true p ∨ S.H p = none
  | [], _, _, h, z => by rw [show _ = [] from h] at z; exact z.elim
  | c :: cs, _, p, ⟨v, r, e, q, h, no⟩, z => by
    subst e
    rcases z with z | z
    · exact (q.2.2 p z).2
    · exact Pcl.fresh h z
theorem PC.stp {ρ1 ρ2 : Rho} {F1 H1 F2 H2 : Hp} {c : Cell} {v : V} (h : PC M σ S ρ1 F1 H1 c v) (s : Stp (Fo ρ1 σ) F1 H1 (Fo ρ2 σ) F2 H2) : PC M σ S ρ2 F2 H2 c v :=
  Pag.stp (fd := ⟨0, 0, [], [], .nil⟩) (j := 0) (a := .tmp c) h s
def setV (σ : L2.St) : List Nat → List V → L2.St
  | i :: is, v :: vs => setV (σ.set i (some v)) is vs
  | _, _ => σ
/-- the cells go to the names, one behind another -/
theorem sets_step {pr : List Nat} {W : L2.WX} {D : Ends} : ∀ {is : List Nat} {cs : List Cell} {vs : List V} {ρ ρ' : Rho} {σ σ0 : L2.St} {S : Sta}, Rl M ρ σ F H → Stp S.O S.F S.H (Fo ρ σ) F H → Kp pr σ0 σ → Pcl M σ S ρ F H cs vs → setCs pr is cs ρ = some ρ' → PostO M W pr σ0 S D (some (.nx ρ')) → D.nx (setV σ is vs) H
  | [], [], _, ρ, ρ', σ, σ0, S, R, s, k, pc, h, p => by
    simp only [setCs, Option.some.injEq] at h; subst h
    exact p σ F H R s k
  | i :: is, c :: cs, _, ρ, ρ', σ, σ0, S, R, s, k, ⟨v, r, e, pc, pcs, no⟩, h, p => by
    subst e
    simp only [setCs] at h
    split at h
    · rename_i ρ1 h1
      unfold setC at h1
      split at h1
      · cases h1
      · rename_i hi
        simp only [Bool.or_eq_true, Bool.not_eq_true', not_or, Bool.not_eq_true, decide_eq_false_iff_not, Decidable.not_not] at hi
        cases h1
        obtain ⟨R', o1, o2⟩ := R.put1 (i := i) pc.1 pc.2.1 fun a ha => (pc.2.2 a ha).1
        have s' : Stp S.O S.F S.H (Fo (ρ.set i (some c)) (σ.set i (some v))) F H := ⟨s.mono, s.keep, s.stay, fun a z => (o1 a z).elim (s.fresh a) fun z => (pc.2.2 a z).2, fun j z => s.see j (o2 j z).2⟩
        have hk : Kp pr σ0 (σ.set i (some v)) := k.trans fun j hj => List.getElem?_set_ne fun z => by
          subst z
          rw [hi.1] at hj; cases hj
        have nx : ∀ {a : Addr}, Nw (ρ.set i (some c)) (σ.set i (some v)) a → Nw ρ σ a := fun ⟨j, d, e1, e2⟩ => by
          obtain ⟨hj, d', e'⟩ := o2 j ⟨d, e1⟩
          rw [List.getElem?_set_ne (Ne.symm hj)] at e2
          exact ⟨j, d', e', e2⟩
        have go : ∀ {cs : List Cell} {vs : List V}, Pcl M σ S ρ F H cs vs → (∀ p, owns c v p → ¬ clOwn cs vs p) → Pcl M (σ.set i (some v)) S (ρ.set i (some c)) F H cs vs := by
          intro cs
          induction cs with
          | nil => intro vs h _; exact h
          | cons c2 cs ih =>
            intro vs ⟨w, r2, e, pc2, pcs2, no2⟩ hno
            subst e
            refine ⟨w, r2, rfl, ⟨pc2.1, pc2.2.1, fun a ha => ⟨⟨fun z => ?_, fun z => (pc2.2.2 a ha).1.2 (nx z)⟩, (pc2.2.2 a ha).2⟩⟩, ih pcs2 fun p hp z => hno p hp (.inr z), no2⟩
            rcases o1 a z with z | z
            · exact (pc2.2.2 a ha).1.1 z
            · exact hno a z (.inl ha)
        exact sets_step (is := is) R' s' hk (go pcs no) h p
    · cases h
  | [], _ :: _, _, _, _, _, _, _, _, _, _, _, h, _ => by simp [setCs] at h
  | _ :: _, [], _, _, _, _, _, _, _, _, _, _, h, _ => by simp [setCs] at h
end
section
variable {g : G} {cl : Nat → List Cell → Option (R Cell)} {M : Mx} {W : L2.WX} {X : Cx} {n : Nat} {pr : List Nat}
def tCl (g : G) (cl : Nat → List Cell → Option (R Cell)) (M : Mx) (W : L2.WX) (ms : Es) : TA := fun σ H Q => ∃ ρ F, Rl M ρ σ F H ∧ Post M W σ (sta ρ σ F H) (PCs M σ) Q (evCs g cl ms ρ)
theorem scl_nil : PA X [] (tCl g cl M W .nil) := pa_imp pa_nil fun σ H Q ⟨ρ, F, R, p⟩ => p.ok R (Stp.refl _ _ _) rfl
theorem scl_cons {e : Expr} {es : List Expr} {b : Bool} {m : Ex} {ms : Es} (hn : nst e = true) (he : PE X e (tE g cl M W m)) (hs : PA X es (tCl g cl M W ms)) : PA X (e :: es) (tCl g cl M W (.cons b m ms)) := by
  refine pa_imp (pa_cons he hs (star_of hn)) fun σ H Q ⟨ρ, F, R, p⟩ => ⟨ρ, F, R, ?_⟩
  simp only [evCs] at p
  refine Post.bnd' p fun c ρ1 v F1 H1 _ R1 s1 pc p => ⟨ρ1, F1, R1, ?_⟩
  cases hx : evCs g cl ms ρ1 with
  | none => rw [hx] at p; exact p.elim
  | some q =>
    rw [hx] at p
    cases q with
    | exc x ρ2 => exact fun cls dx F2 H2 R2 s2 rx => p cls dx F2 H2 R2 (s1.trans s2) rx
    | ok cs ρ2 =>
      intro vs F2 H2 R2 s2 pas
      refine p.ok R2 (s1.trans s2) ⟨v, vs, rfl, PC.stp pc s2, Pcl.back pas s1, fun q hq z => ?_⟩
      rcases Pcl.fresh pas z with w | w
      · exact (pc.2.2 q hq).1.1 w
      · obtain ⟨_, o, e2, _⟩ := (pc.2.1.own hq.1).at hq.2
        rw [show H1 q = none from w] at e2; cases e2
theorem Pcl.len {σ : L2.St} {S : Sta} {ρ : Rho} {F H : Hp} : ∀ {cs : List Cell} {vs : List V}, Pcl M σ S ρ F H cs vs → cs.length = vs.length
  | [], _, h => by rw [show _ = [] from h] <;> rfl
  | c :: cs, _, ⟨v, r, e, _, h, _⟩ => by rw [e, List.length_cons, List.length_cons, Pcl.len h]
theorem par_core {is : List Nat} {ms : Es} {D : Ends} {σ : L2.St} {H : Hp} (h : tS g cl M W n pr (.par is ms) D σ H) : tCl g cl M W ms σ H fun vs H1 => vs.length = is.length ∧ D.nx (setV σ is vs) H1 := by
  obtain ⟨ρ, F, R, p⟩ := h
  simp only [evS] at p
  refine ⟨ρ, F, R, PostO.bnd p fun cs ρ1 vs F1 H1 _ R1 s1 pc p => ?_⟩
  obtain ⟨ρ', h', p⟩ := p.map
  have hl : ∀ {is : List Nat} {cs : List Cell} {ρ ρ' : Rho}, setCs pr is cs ρ = some ρ' → is.length = cs.length := by
    intro is
    induction is with
    | nil => intro cs ρ ρ' h; cases cs <;> simp [setCs] at h ⊢
    | cons i is ih =>
      intro cs ρ ρ' h
      cases cs with
      | nil => simp [setCs] at h
      | cons c cs =>
        simp only [setCs] at h
        split at h
        · simp [ih h]
        · cases h
  exact ⟨by rw [hl h', Pcl.len pc], sets_step (W := W) R1 s1 .refl pc h' p⟩
theorem ss_par2 {st : Stmt} {i j : Nat} {ms : Es} (h : PS X st (tPar i j (tCl g cl M W ms))) : PS X st (tS g cl M W n pr (.par [i, j] ms)) := by
  refine ps_imp h fun D σ H h => ?_
  obtain ⟨ρ, F, R, p⟩ := par_core h
  refine ⟨ρ, F, R, p.imp fun vs H1 ⟨l, q⟩ => ?_⟩
  match vs, l with
  | [v, w], _ => exact ⟨v, w, rfl, q⟩
theorem ss_par3 {st : Stmt} {i j k : Nat} {ms : Es} (h : PS X st (tPar3 i j k (tCl g cl M W ms))) : PS X st (tS g cl M W n pr (.par [i, j, k] ms)) := by
  refine ps_imp h fun D σ H h => ?_
  obtain ⟨ρ, F, R, p⟩ := par_core h
  refine ⟨ρ, F, R, p.imp fun vs H1 ⟨l, q⟩ => ?_⟩
  match vs, l with
  | [v, w, u], _ => exact ⟨v, w, u, rfl, q⟩
end
end Ev
end

section
set_option maxHeartbeats 0
namespace Eh
open PySem PySem.Spec PyProof.Rows L2 Ev
section
variable {X : Cx} {pins : List (Addr × Obj)} {σ : L2.St} {H : Hp} {s : Shared} {a : Addr} {o : HO}
theorem keptX_ok {P : Program} {w : World} {H : Hp} {h : Heap} {C d a : Addr} {oe : Obj} {vs : Array Value} (e : h.get? a = some oe) (z : Zc (.ref C) (some d) oe) (f : oe.data = .fields vs) : ObjOk P w H h a (KeptX C d a) :=
  ⟨⟨oe, vs, e, z, f⟩, ⟨oe, e⟩, fun h1 h2 ⟨oe', vs', e', z', f'⟩ k => ⟨oe', vs', k _ e', z', f'⟩⟩
/-- an object that came into being since the entry is tracked from now on -/
theorem track (I : Inv X pins σ H s) (n0 : X.s_0.heap.get? a = none) (hn : H a = none) (nL : a ≠ X.env.locals) (nC : ∀ v, ¬ s.heap.IsCell a v) (nP : ∀ p ∈ X.pn ++ pins, p.1 ≠ a) (new : ObjOk X.prog X.w (L2.upd H a o) s.heap a o) : Inv X pins σ (L2.upd H a o) s where
  ok := I.ok
  os := I.os
  bare := I.bare
  base := ⟨I.base.keep, I.base.slot, fun b u e q x => by
      rw [upd_ne fun z => by rw [z, n0] at e; cases e]
      exact I.base.free b u e q x, I.base.there,
    fun b xs e => by rw [upd_ne (ne_of_none (I.base.tups b xs e) hn)]; exact I.base.tups b xs e,
    fun b u v e => by rw [upd_ne (ne_of_none (I.base.frzs b u v e) hn)]; exact I.base.frzs b u v e,
    fun b ps e => by
      obtain ⟨m, q⟩ := I.base.tbls b ps e
      exact ⟨m, by rw [upd_ne (ne_of_none q hn)]; exact q⟩⟩
  loc := I.loc
  cell := I.cell
  free := by rw [upd_ne (Ne.symm nL)]; exact I.free
  freeC := fun x c e => by
    rw [upd_ne fun z => ?_]
    · exact I.freeC x c e
    · obtain ⟨v, q⟩ := I.cell x c e
      exact nC v (z ▸ q)
  pin := fun p hp => by
    obtain ⟨e1, e2, e3⟩ := I.pin p hp
    exact ⟨e1, by rw [upd_ne (nP p hp)]; exact e2, e3⟩
  hok := L2.HOk.laidN I.hok (fun _ _ e => e) hn new
  len := I.len
end
/-- the wish of a body whose clause keeps the exception: names n (slot i), m (slot j) -/
def wKp (K : PySem.W.Frag) (c : Value) (i j : Nat) (Wout : L2.WX) (D : Ends) : L2.WX := fun cls d σ H =>
  ∃ b, PySem.W.exmOne K cls c = some b ∧ (b = true → ∃ C dd, cls = .ref C ∧ d = some dd ∧ ∀ a, H a = none → D.nx (((σ.set i (some (.ref a))).set j (some (.ref a))).set i none) (L2.upd H a (KeptX C dd a))) ∧ (b = false → Wout cls d σ H)
section
variable {X : Cx} {x n m : Str} {c : Value} {i j : Nat} {body : List Stmt} {np pm pn' pa pos pos' : Pos} {tb : L2.WX → TS} {Wout : L2.WX}
/-- try: body / except x as n: m = n -/
theorem ps_try_keep (hex : X.ex = []) (stk : X.stack = X.env :: X.outer) (frm : X.env.frame = some X.env.locals) (nd : X.N.Nodup) (hi : X.N[i]? = some n) (hj : X.N[j]? = some m) (kn : X.env.kindOf n = some .local) (km : X.env.kindOf m = some .local)
    (nm : Names X x c) (tk : Takes X Wout) (dn : (n == ("__debug__" : Str)) = false ∧ (n == ("__classdict__" : Str)) = false)
    (bd : ∀ (W : L2.WX) (pn : List (Addr × Obj)) (xe : Value → Shared → Prop), Takes (X.tr pn xe) W → PassesOwn (model X.prog X.w) X.A X.env xe → PSs (X.tr pn xe) body (tb W))
    (sw : swapsWith (.Name n pn') (some (.Name m pm)) pa.line X.env = pure false) :
    PS X (.Try body [.ExceptHandler (some (.Name x np)) (some n) [.Assign [.Name m pm] (.Name n pn') pa] pos'] [] [] pos) (fun D σ H => tb (wKp X.K c i j Wout D) D σ H) := by
  refine ⟨fun pins s σ H D I h => ?_⟩
  have ok := I.ok
  have fra : X.A.frames = some (X.env :: X.outer) := by rw [ok.frames, stk]
  refine wpAny_Try_except (wpAny_mono ((bd (wKp X.K c i j Wout D) (X.pn ++ pins) _ (fun u s1 flying => ?_) PassesOwn.looking).run [] s σ H D (I.toTry _) h) (fun f s1 done => ?_) (fun e s1 he => he))
  · obtain ⟨a, B, s0, ps0, σ1, H1, cls, d, rfl, J0, ground, up1, sky, na, os, bare, b, isb, yes, no⟩ := flying
    have J : Inv X pins σ1 H1 s0 := J0.ofTry ok
    rw [stk] at sky
    show wpAny (model X.prog X.w) X.A (noteFrame (.ref a) X.env) _ _ _
    refine Sky.land Zc.steady fra frm sky fun h2 fl2 up2 => ?_
    have J2 : Inv X pins σ1 H1 { s1 with heap := h2 } := J.landed ground fl2.1 (up1.trans up2) os bare
    obtain ⟨oe2, vs2, at2, z2, f2⟩ := fl2.there
    have off : a ∉ frs (X.env :: X.outer) := fun hm => by
      obtain ⟨_, o', e', nf⟩ := fl2.2.2.1.mem hm
      rw [at2] at e'; cases e'
      exact nf _ f2
    have offL : a ≠ X.env.locals := fun z => off (List.mem_filterMap.mpr ⟨X.env, List.mem_cons_self, by rw [frm, z]⟩)
    have offF : a ∉ X.fs := fun hm => let ⟨e, he, q⟩ := List.mem_filterMap.mp hm; off (List.mem_filterMap.mpr ⟨e, List.mem_cons_of_mem _ he, q⟩)
    have new0 : s0.heap.get? a = none := by
      cases e : s0.heap.get? a with
      | none => rfl
      | some o =>
        have := ground a o e (by rw [stk]; exact off)
        rw [fl2.2.1] at this; cases this
    have newE : X.s_0.heap.get? a = none := by
      cases e : X.s_0.heap.get? a with
      | none => rfl
      | some o =>
        obtain ⟨o', e'⟩ := J.base.there a o e (by rw [hex]; exact List.not_mem_nil)
        rw [new0] at e'; cases e'
    have apart : ∀ p ∈ X.pn ++ pins, p.1 ≠ a := fun p hp z => by
      have := (J.pin p hp).1
      rw [z, new0] at this; cases this
    have S2 := J2.suite at2 f2 na offL offF
    refine wpAny_handleBy_cons (codeAny_handlers_test ?_) (by intro q; cases q)
    have lookT : PySem.W.Looks (model X.prog X.w) h2 (typeOf (.ref a)) cls := fun A Q E t k q => wpAny_typeOf_ref (k _ _ at2) (by rw [z2.1]; exact q)
    have lookM := PySem.W.exm_one (M := model X.prog X.w) J2.kIn lookT isb
    have named : ∀ {Q : Value → Shared → Prop} {E : Value → Shared → Prop}, Q c { s1 with heap := h2 } → wpAny (model X.prog X.w) (X.A.mark (some (.ref a))) (eval (.Name x np) X.env) Q E { s1 with heap := h2 } := fun {Q E} q => by
      obtain ⟨hg, db, hm | ⟨hm, hv, hnn⟩⟩ := nm
      · exact ld_glob (X := X.suite a ((a, oe2) :: (X.pn ++ pins))) S2 hg hm q db
      · exact ld_blt (X := X.suite a ((a, oe2) :: (X.pn ++ pins))) S2 hg hm hv q hnn db
    refine named (lookM.here ?_)
    cases b with
    | false =>
      show wpAny _ X.A (handleBy (.ref a) X.env []) _ _ _
      refine wpAny_handleBy_nil ?_
      obtain ⟨k1, k2, k3, oe, vs, t, ot, ts', he, hz, hd, h1, hr⟩ := id fl2
      unfold PySem.passOn
      refine wpAny_bind (wpAny_field he hd h1 ?_)
      rw [if_neg (show ¬ ((Value.ref t == Value.none) = true) from by simp)]
      have out : wpAny (model X.prog X.w) X.A (setFlight (.ref a) X.env.frame) (fun _ s4 => wpAny (model X.prog X.w) X.A (throw (.ref a) : Sem Flow) (SP X pins D) X.xe s4) X.xe { s1 with heap := h2 } := by
        rw [frm]
        refine HandSPX.setFlight_upZ fl2 fun h4 held up4 => wpAny_throw (tk _ _ ?_)
        exact ⟨a, B, s0, pins, σ1, H1, cls, d, rfl, J, ground, (up1.trans up2).trans up4, .inr (.inr (by rw [stk]; exact held)), na, os, bare, no rfl⟩
      first
        | exact wpAny_bind (wpAny_pure (wpAny_bind out))
        | exact wpAny_bind out
    | true =>
      refine codeAny_handlers_suite_as ?_
      refine HandSPX.lands_againZ fl2 fun h3 fl3 up3 => ?_
      have J3 : Inv X pins σ1 H1 { s1 with heap := h3 } := J.landed ground fl3.1 ((up1.trans up2).trans up3) os bare
      obtain ⟨oe3, vs3, at3, z3, f3⟩ := fl3.there
      have S3 := J3.suite at3 f3 na offL offF
      refine store_ok (X := X.suite a ((a, oe3) :: (X.pn ++ pins))) (v := .ref a) S3 nd hi (.inl kn) rfl (fun s4 S4 => ?_) (.inr kn)
      have li : i < σ1.length := by rw [S3.len]; exact (List.getElem?_eq_some_iff.mp hi).1
      have one : PS (X.suite a ((a, oe3) :: (X.pn ++ pins))) (.Assign [.Name m pm] (.Name n pn') pa) (tAsg (tVar i) (gName j)) :=
        ps_asg (pe_var hi (.inl kn) dn.1 dn.2) (pg_name nd hj (.inl km) (.inr km)) sw
      refine wpAny_mono ((pss_one one).run [] s4 _ H1 { nx := fun σ' H' => σ' = (σ1.set i (some (.ref a))).set j (some (.ref a)) ∧ H' = H1, rt := fun _ _ => False, bk := fun _ _ => False, ct := fun _ _ => False } S4 ⟨.ref a, List.getElem?_set_self li, rfl, rfl⟩) (fun f s5 hsp => ?_) (fun _ _ z => z.elim)
      obtain ⟨C, dd, rfl, rfl, q⟩ := yes rfl
      cases f with
      | next =>
        obtain ⟨σ5, H5, S5, rfl, rfl⟩ := hsp
        have at5 := (S5.pin (a, oe3) (List.mem_append_left _ List.mem_cons_self)).1
        have J5 : Inv X pins _ H5 s5 := S5.unsuite ok
        have K5 := track (o := KeptX C dd a) J5 newE na offL (fun v ⟨o', e', d'⟩ => by rw [at5] at e'; cases e'; rw [f3] at d'; cases d') apart (keptX_ok at5 z3 f3)
        exact gone_ok K5 nd hi kn fun s6 J6 => ⟨_, _, J6, q a na⟩
      | brk =>
        obtain ⟨_, _, _, z⟩ := hsp
        exact z.elim
      | cont =>
        obtain ⟨_, _, _, z⟩ := hsp
        exact z.elim
      | ret u =>
        obtain ⟨_, _, _, _, _, z⟩ := hsp
        exact z.elim
  · cases f with
    | next =>
      obtain ⟨σ', H', J', q⟩ := done
      exact wpAny_execs_nil ⟨σ', H', J'.ofTry ok, q⟩
    | brk =>
      obtain ⟨σ', H', J', q⟩ := done
      exact ⟨σ', H', J'.ofTry ok, q⟩
    | cont =>
      obtain ⟨σ', H', J', q⟩ := done
      exact ⟨σ', H', J'.ofTry ok, q⟩
    | ret u =>
      obtain ⟨v, σ', H', J', r, q⟩ := done
      exact ⟨v, σ', H', J'.ofTry ok, r, q⟩
end
end Eh
end

section
set_option maxHeartbeats 0
namespace Eh
open PySem PySem.Spec PyProof.Rows L2 Ev
def spInit (K : PySem.W.Frag) (f : Str) : Sp := fun vs H Q _ => ∃ (a C : Addr) (v : V), vs = [.ref a, v] ∧ OexC K C ∧ PySem.W.findIn K (.ref C) f = some none ∧ H a = some (exo a C none) ∧
  ∀ dx, H dx = none → dx ≠ a → Q .non (L2.upd (L2.upd H dx (exd dx [(f, v)])) a (exo a C (some dx)))
/-- the text of such an __init__ -/
def initB (f : Str) : List Stmt → Bool
  | [.Assign [.Attribute (.Name x _) g _] (.Name y _) _] => decide (x = "self") && decide (g = f) && decide (y = f)
  | _ => false
theorem exInit {P : Program} {w : World} {K : PySem.W.Frag} {mg : Str → Option Value} {base : Heap} {fI : Addr} {fd : FuncData} {nm qual f : Str} {params : Arguments} {body : List Stmt} {scope : Scope} {dvs : List V} {kws : List (Str × V)}
    (FD : FunD K nm qual params body scope dvs kws fI fd) (S : FnScope ["self", f] ["self", f] scope) (hb : initB f body = true) (hf : (f == ("__debug__" : Str)) = false ∧ (f == ("__classdict__" : Str)) = false)
    (l0 : scope.names.lookup ("self" : Str) = some .local) (l1 : scope.names.lookup f = some .local) : FnOk P w K mg base (L2.CX P w) 1 fI fd ["self", f] (spInit K f) := by
  refine FD.ok S (fun vs H Q E ⟨a, C, v, e, _⟩ => by rw [e]; rfl) fun cdv A outer s H vs Q E hr ⟨a, C, v, e, T, no, ea, q⟩ => ?_
  subst e
  unfold initB at hb
  split at hb
  · simp only [Bool.and_eq_true, decide_eq_true_eq] at hb
    obtain ⟨⟨rfl, rfl⟩, rfl⟩ := hb
    exact ⟨_, pss_one (ps_ost (pe_var (i := 0) rfl (.inl l0)) (pe_var (i := 1) rfl (.inl l1) hf.1 hf.2)), v, rfl, .ref a, rfl, a, C, rfl, T, no, .inl ⟨ea, q⟩⟩
  · cases hb
theorem no_pass {P : Program} {w : World} {X : Cx} (hP : X.prog = P) (hw : X.w = w) : Passes (L2.CX P w) X (fun _ _ _ => False) := fun _ _ _ _ _ _ _ ⟨_, _, _, _, _, _, _, _, _, _, _, _, z⟩ => z.elim
/-- C(v), to be raised: what is left of the making -/
theorem mk1 {K : PySem.W.Frag} {C : Addr} {f : Str} {vs : List V} {H1 : Hp} {Q : XK} (T : OexC K C) (no : PySem.W.findIn K (.ref C) f = some none) (h : ∃ v, vs = [v] ∧ ∀ d, H1 d = none → Q (.ref C) (some d) (L2.upd H1 d (.xd [(f, v)]))) :
    vs.length ≤ 1000 ∧ ∀ a, H1 a = none → spInit K f (.ref a :: (vs ++ [])) (L2.upd H1 a (exo a C none)) (fun v H2 => v = .non ∧ ∃ (d : Addr) (fs : List (Str × V)), H2 a = some (exo a C (some d)) ∧ H2 d = some (exd d fs) ∧ H1 d = none ∧ Q (.ref C) (some d) (L2.upd (del H2 a) d (.xd fs))) (fun _ _ _ => False) := by
  obtain ⟨v, rfl, q⟩ := h
  refine ⟨show 1 ≤ 1000 by decide, fun a na => ⟨a, C, v, rfl, T, no, upd_same, fun dx nd ne => ⟨rfl, dx, [(f, v)], upd_same, ?_, ?_, ?_⟩⟩⟩
  · rw [upd_ne ne, upd_same]
  · rw [upd_ne ne] at nd; exact nd
  · rw [upd_ne ne] at nd
    have e : L2.upd (del (L2.upd (L2.upd (L2.upd H1 a (exo a C none)) dx (exd dx [(f, v)])) a (exo a C (some dx))) a) dx (.xd [(f, v)]) = L2.upd H1 dx (.xd [(f, v)]) := by
      funext b
      by_cases h1 : b = dx
      · subst h1; rw [upd_same, upd_same]
      · rw [upd_ne h1, upd_ne h1]
        by_cases h2 : b = a
        · subst h2; rw [del_same, na]
        · rw [del_ne h2, upd_ne h2, upd_ne h1, upd_ne h2]
    rw [e]
    exact q dx nd
/-- what is known of an exception class: its field, its __init__ -/
structure XCls (P : Program) (w : World) (K : PySem.W.Frag) (mg : Str → Option Value) (base : Heap) (x f : Str) (C : Addr) : Prop where
  ox : OexC K C
  xf : XfC K C
  no : PySem.W.findIn K (.ref C) f = some none
  mgC : mg x = some (.ref C)
  db : (x == ("__debug__" : Str)) = false
  ini : ∃ (fI : Addr) (fd : FuncData), PySem.W.findIn K (.ref C) "__init__" = some (some (.ref fI)) ∧ PySem.W.typeIn K (.ref fI) = some (.type "function") ∧ FnOk P w K mg base (L2.CX P w) 1 fI fd ["self", f] (spInit K f) ∧ Binds K fd ["self", f] [] ∧
    ∀ (s : Shared) (u v : Value), K.In s.heap → BindsTo s fd ⟨[u], [(f, v)]⟩ [("self", u), (f, v)]
theorem pmk_1 {X : Cx} {x f : Str} {C : Addr} {e : Expr} {ta : TA} {p pos : Pos} (T : XCls X.prog X.w X.K X.mg X.base x f C) (hr : Room 2 X.A) (hg : Gl X x) (ha : PA X [e] ta)
    (hs : starEach (e :: []) X.env = (false, eval e X.env) :: starEach [] X.env) : PMk X (.Call (.Name x p) [e] [] pos) (tMkO C (spInit X.K f) [] ta) := by
  obtain ⟨fI, fd, iC, tI, F1, hb, _⟩ := T.ini
  exact pmk_oex (dvs := []) T.ox iC tI F1 hr hb .nil (no_pass rfl rfl) hg T.mgC ha T.db hs rfl
/-- e.f, e a kept exception -/
def tXat (K : PySem.W.Frag) (f : Str) (te : TE) : TE := fun σ H Q => te σ H fun x H1 => ∃ (a C d : Addr) (fs : List (Str × V)) (v : V), x = .ref a ∧ XfC K C ∧ PySem.W.findIn K (.ref C) f = some none ∧ H1 a = some (KeptX C d a) ∧ H1 d = some (.xd fs) ∧ fs.lookup f = some v ∧ Q v H1
theorem pe_xat {X : Cx} {e : Expr} {te : TE} {pos : Pos} {f : Str} (he : PE X e te) (hb : attributeBase e f X.env (eval e X.env) = eval e X.env) : PE X (.Attribute e f pos) (tXat X.K f te) := by
  refine ⟨fun pins s σ H Q I h => attr_of hb (thn (he.run pins s σ H _ I h) fun u s1 ⟨x, H1, I1, rx, a, C, d, fs, v, ex, T, no, ea, ed, l, q⟩ => ?_)⟩
  subst ex
  obtain rfl : u = Value.ref a := rx
  obtain ⟨⟨oe, vs, at_, z, dat⟩, _⟩ := I1.hok a _ ea
  obtain ⟨mA, ns, rel⟩ : ObjOk X.prog X.w H1 s1.heap d (.xd fs) := I1.hok d _ ed
  obtain ⟨od, ho, look⟩ := lookIn_ns ns
  obtain ⟨u, hu, ru⟩ := RelO.some_of (v := v) (o := mA f) (by rw [← l]; exact rel f)
  have inst : PySem.W.InstAt s1.heap a oe C (some od) := ⟨at_, z.1, by unfold PySem.W.notCls; rw [dat] <;> rfl, by rw [z.2]; exact ho⟩
  exact HandSPX.exc_get I1.kIn inst T.ga T.gg T.exC (PySem.W.findObj_own T.hdC no rfl (by rw [look, hu])) (handed_of ru) ⟨v, H1, I1.tok _, ru, q⟩
end Eh
end

section
set_option maxHeartbeats 0
namespace Ev
open PySem PySem.Spec PyProof.Rows L2 Eh
def isAttr : Expr → Bool | .Attribute .. => true | _ => false
section
variable {g : G} {cl : Nat → List Cell → Option (R Cell)} {M : Mx} {W : L2.WX} {X : Cx} {n : Nat} {pr : List Nat}
theorem nv_xat {xf : Nat → Option Str} {f : Str} {d : D} {c : Cell} (h : xatD xf f d = some c) : nv c := by
  unfold xatD at h
  split at h
  · split at h
    · cases h; trivial
    · cases h
  · cases h
theorem se_xat {e : Expr} {a : Ex} {f : Str} {pos : Pos} (hx : ∀ c, g.xf c = some f → ∃ C, M.ca c = some C ∧ M.xf c = [f] ∧ XfC X.K C ∧ PySem.W.findIn X.K (.ref C) f = some none) (he : PE X e (tO g cl M W a)) (hb : attributeBase e f X.env (eval e X.env) = eval e X.env) :
    PE X (.Attribute e f pos) (tE g cl M W (.xat f a)) := by
  refine pe_imp (pe_xat he hb) fun σ H Q ⟨ρ, F, R, p⟩ => ?_
  simp only [evE] at p
  refine one_op (f := xatD g.xf f) (r := fun x H1 Q => ∃ (a C d : Addr) (fs : List (Str × V)) (v : V), x = .ref a ∧ XfC X.K C ∧ PySem.W.findIn X.K (.ref C) f = some none ∧ H1 a = some (KeptX C d a) ∧ H1 d = some (.xd fs) ∧ fs.lookup f = some v ∧ Q v H1) R p (fun d c h => nv_xat h) fun x H2 F2 d c' h1 h2 h3 h4 => ?_
  unfold xatD at h3
  split at h3
  · rename_i c0 d0
    split at h3
    · rename_i hc
      cases h3
      obtain ⟨C, hC, hf, T, no⟩ := hx c0 hc
      have r := h2.frz rfl
      obtain ⟨a, C', d, vs, rfl, eC, ea, ed, l, r⟩ := r
      rw [hC] at eC; cases eC
      obtain ⟨v, r0, rfl, rv, rn⟩ := r
      obtain rfl : r0 = [] := rn
      rw [hf] at ed
      exact ⟨a, C, d, [(f, v)], v, rfl, T, no, h1 _ _ ea, h1 _ _ ed, by simp [List.lookup], h4.fz h1 rv⟩
    · cases h3
  · cases h3
theorem ss_raise {e : Expr} {m : Ex} {c : Nat} {C : Addr} {x f : Str} {p pos pos' : Pos} (hK : M.K = X.K) (hc : X.calm = true) (tk : Takes X W) (hC : M.ca c = some C) (hf : M.xf c = [f]) (T : XCls X.prog X.w X.K X.mg X.base x f C) (hr : Room 2 X.A) (hg : Gl X x) (hn : nst e = true) (he : PE X e (tE g cl M W m)) :
    PS X (.Raise (some (.Call (.Name x p) [e] [] pos')) none pos) (tS g cl M W n pr (.raise c m)) := by
  refine ps_imp (ps_raise hc tk (pmk_1 T hr hg (sd_cons hn he sd_nil) (star_of hn))) fun D σ H ⟨ρ, F, R, p⟩ => ?_
  simp only [evS] at p
  refine ⟨ρ, F, R, PostO.bnd p fun ds ρ1 vs F1 H1 ed R1 s1 pd p => ?_⟩
  refine mk1 (Q := fun cls d H' => W cls d σ H') T.ox T.no ?_
  have l1 : ds.length = 1 := by
    simp only [evD] at ed
    cases hx : evE g cl m ρ with
    | none => rw [hx] at ed; cases ed
    | some q =>
      rw [hx] at ed
      cases q with
      | exc _ _ => cases ed
      | ok c' ρ' => cases ed; rfl
  have rr : RepsF M F1 ds vs := pd
  have lv := rr.len
  match vs, lv.symm.trans l1 with
  | [v], _ =>
    refine ⟨v, rfl, fun d nd => ?_⟩
    have hF := Ev.le.none R1.le nd
    have hle := Ev.le.upd (o := .xd [(f, v)]) hF
    obtain ⟨R2, s2⟩ := R1.new (F1 := L2.upd F1 d (.xd [(f, v)])) (H1 := L2.upd H1 d (.xd [(f, v)])) hle (Ev.le.upd nd) (Ev.le.upd2 R1.le) fun a ha => upd_ne fun z => ha (z ▸ nd)
    exact p (.ref C) (some d) σ _ _ R2 (s1.trans s2) .refl ⟨c, ds, C, d, [v], rfl, hC, rfl, rfl, by rw [hf]; exact upd_same, by rw [hf]; rfl, RepsF.mono hle _ _ rr⟩
/-- the exception goes to the name -/
theorem keep_rl {ρ ρ1 : Rho} {σ : L2.St} {F H : Hp} {c i j : Nat} {fs : List D} {C d a : Addr} (R : Rl M ρ σ F H) (rx : RepX M F H (.exc c fs) (.ref C) (some d)) (na : H a = none) (hi : pr.contains i = false) (hij : i ≠ j) (hs : setC pr j (.fz (.exc c fs)) ρ = some ρ1) :
    Rl M (ρ1.set i none) (((σ.set i (some (.ref a))).set j (some (.ref a))).set i none) (L2.upd F a (KeptX C d a)) (L2.upd H a (KeptX C d a)) ∧ Stp (Fo ρ σ) F H (Fo (ρ1.set i none) (((σ.set i (some (.ref a))).set j (some (.ref a))).set i none)) (L2.upd F a (KeptX C d a)) (L2.upd H a (KeptX C d a)) ∧
      Kp pr σ (((σ.set i (some (.ref a))).set j (some (.ref a))).set i none) := by
  unfold setC at hs
  split at hs
  · cases hs
  · rename_i hj
    simp only [Bool.or_eq_true, Bool.not_eq_true', not_or, Bool.not_eq_true, decide_eq_false_iff_not, Decidable.not_not] at hj
    cases hs
    obtain ⟨c', fs', C', d', vs, e, eC, ec, ed, hd, l, r⟩ := rx
    cases e; cases ec; cases ed
    have hF := Ev.le.none R.le na
    have hle := Ev.le.upd (o := KeptX C d a) hF
    obtain ⟨R2, s2⟩ := R.new (F1 := L2.upd F a (KeptX C d a)) (H1 := L2.upd H a (KeptX C d a)) hle (Ev.le.upd na) (Ev.le.upd2 R.le) fun b hb => upd_ne fun z => hb (z ▸ na)
    have rep : RepF M (L2.upd F a (KeptX C d a)) (.exc c fs) (.ref a) := ⟨a, C, d, vs, rfl, eC, upd_same, hle _ _ hd, l, RepsF.mono hle _ _ r⟩
    obtain ⟨R3, o3, v3⟩ := R2.put1 (i := j) (c := .fz (.exc c fs)) (v := .ref a) trivial rep fun b hb => absurd hb.1 (by simp [isOwn])
    have sub : ∀ (k : Nat) (c0 : Cell), ((ρ.set j (some (.fz (.exc c fs)))).set i none)[k]? = some (some c0) → (ρ.set j (some (.fz (.exc c fs))))[k]? = some (some c0) ∧ (((σ.set i (some (.ref a))).set j (some (.ref a))).set i none)[k]? = (σ.set j (some (.ref a)))[k]? := fun k c0 e => by
      by_cases hk : k = i
      · subst hk
        by_cases hl : k < ρ.length
        · rw [List.getElem?_set_self (by rw [List.length_set]; exact hl)] at e; cases e
        · rw [List.getElem?_eq_none (by rw [List.length_set, List.length_set]; omega)] at e; cases e
      · rw [List.getElem?_set_ne (Ne.symm hk)] at e
        refine ⟨e, ?_⟩
        rw [List.getElem?_set_ne (Ne.symm hk)]
        by_cases hkj : k = j
        · subst hkj
          by_cases hl : k < σ.length
          · rw [List.getElem?_set_self (by rw [List.length_set]; exact hl), List.getElem?_set_self hl]
          · rw [List.getElem?_eq_none (by rw [List.length_set, List.length_set]; omega), List.getElem?_eq_none (by rw [List.length_set]; omega)]
        · rw [List.getElem?_set_ne (Ne.symm hkj), List.getElem?_set_ne (Ne.symm hk), List.getElem?_set_ne (Ne.symm hkj)]
    refine ⟨R3.less ?_ sub, ⟨s2.mono, s2.keep, s2.stay, fun b z => ?_, fun k ⟨dd, e⟩ => ?_⟩, fun k hk => ?_⟩
    · have := R.len
      simp only [List.length_set]
      exact this
    · rcases o3 b (ow_less sub z) with z | z
      · exact .inl z
      · exact absurd z.1 (by simp [isOwn])
    · exact (v3 k ⟨dd, (sub k _ e).1⟩).2
    · have h1 : i ≠ k := fun z => by rw [z, hk] at hi; cases hi
      have h2 : j ≠ k := fun z => by have := hj.1; rw [z, hk] at this; cases this
      rw [List.getElem?_set_ne h1, List.getElem?_set_ne h2, List.getElem?_set_ne h1]
theorem ss_try {x nm m : Str} {c i j : Nat} {C : Addr} {body : List Stmt} {b : Ss} {np pm pn' pa pos pos' : Pos} (hex : X.ex = []) (stk : X.stack = X.env :: X.outer) (frm : X.env.frame = some X.env.locals) (nd : X.N.Nodup) (hi : X.N[i]? = some nm) (hj : X.N[j]? = some m)
    (kn : X.env.kindOf nm = some .local) (km : X.env.kindOf m = some .local) (nms : Names X x (.ref C)) (hC : M.ca c = some C) (hxs : ∀ c' b C', g.xs c' c = some b → M.ca c' = some C' → PySem.W.exmOne X.K (.ref C') (.ref C) = some b) (tk : Takes X W)
    (dn : (nm == ("__debug__" : Str)) = false ∧ (nm == ("__classdict__" : Str)) = false)
    (bd : ∀ (W : L2.WX) (pn : List (Addr × Obj)) (xe : Value → Shared → Prop), Takes (X.tr pn xe) W → PassesOwn (model X.prog X.w) X.A X.env xe → PSs (X.tr pn xe) body (tSs g cl M W n pr b))
    (sw : swapsWith (.Name nm pn') (some (.Name m pm)) pa.line X.env = pure false) :
    PS X (.Try body [.ExceptHandler (some (.Name x np)) (some nm) [.Assign [.Name m pm] (.Name nm pn') pa] pos'] [] [] pos) (tS g cl M W n pr (.try_ b c i j)) := by
  refine ps_imp (ps_try_keep hex stk frm nd hi hj kn km nms tk dn bd sw) fun D σ H ⟨ρ, F, R, p⟩ => ⟨ρ, F, R, ?_⟩
  simp only [evS] at p
  cases ho : evSs g cl n pr b ρ with
  | none => rw [ho] at p; exact p.elim
  | some o =>
    rw [ho] at p
    cases o with
    | nx ρ' => exact p
    | rt c' ρ' => exact p
    | bk ρ' => exact p
    | ct ρ' => exact p
    | ex e ρ' =>
      rintro cls dx σ' F' H' R' s' k' ⟨c', fs, C', d, vs, rfl, eC, rfl, rfl, hd, l, r⟩
      simp only [keepX] at p
      have rx : RepX M F' H' (.exc c' fs) (.ref C') (some d) := ⟨c', fs, C', d, vs, rfl, eC, rfl, rfl, hd, l, r⟩
      cases hb : g.xs c' c with
      | none => rw [hb] at p; exact p.elim
      | some q =>
        rw [hb] at p
        refine ⟨q, hxs c' q C' hb eC, fun hq => ?_, fun hq => ?_⟩
        · subst hq
          simp only at p
          split at p
          · exact p.elim
          · rename_i hn
            simp only [Bool.or_eq_true, beq_iff_eq, not_or, Bool.not_eq_true] at hn
            refine ⟨C', d, rfl, rfl, fun a na => ?_⟩
            cases hs : setC pr j (.fz (.exc c' fs)) ρ' with
            | none => rw [hs] at p; exact p.elim
            | some ρ1 =>
              rw [hs] at p
              obtain ⟨R2, s2, k2⟩ := keep_rl (pr := pr) R' rx na hn.1 hn.2 hs
              exact p _ _ _ R2 (s'.trans s2) (k'.trans k2)
        · subst hq
          exact p _ _ σ' F' H' R' s' k' rx
def tCallV (te : TE) (k : V → TE) : TE := fun σ H Q => te σ H fun x H1 => k x σ H1 Q
theorem isAttr_ev {fe : Expr} {args : List Expr} {pos : Pos} {env : Env} (h : isAttr fe = false) : eval (.Call fe args [] pos) env = (do callWith pos (← eval fe env) [] (backTo pos (starEach args env)) (backToKw pos (keywordEach [] env))) := by
  cases fe <;> first | rfl | cases h
theorem se_callv {fe : Expr} {a : Ex} {e : Expr} {es : List Expr} {ms : Es} {pos : Pos} (hat : isAttr fe = false) (tk : Takes X W) (hfn : ∀ f fd, g.fn f = some fd → ∃ x ps, FnAt X M cl f fd x ps ∧ ∀ b, M.fa f = some b → X.mg x = some (.ref b)) (hn : nst e = true) (hpl : (backTo pos (starEach es X.env)).any (·.1) = false)
    (he : PE X fe (tE g cl M W a)) (ha : ∀ fd, PA X (e :: es) (tAs' g cl M W fd 0 ms)) : PE X (.Call fe (e :: es) [] pos) (tE g cl M W (.callv a ms)) := by
  refine ⟨fun pins s σ H Q I ⟨ρ, F, R, p⟩ => ?_⟩
  rw [isAttr_ev hat]
  simp only [evE] at p
  let Q1 : VK := fun x H1 => ∃ (f : Nat) (fd : Fn) (b : Addr), x = .ref b ∧ M.fa f = some b ∧ g.fn f = some fd ∧ tAs' g cl M W fd 0 ms σ H1 fun vs H2 => spOf M cl f fd vs H2 Q (WE W σ)
  have q1 : tE g cl M W a σ H Q1 := by
    refine ⟨ρ, F, R, Post.bnd' p fun c ρ1 v F1 H1 _ R1 s1 pc p => ?_⟩
    split at p
    · rename_i f hf
      split at p
      · rename_i fd hfd
        have hd : c.d = .fn f := by
          unfold fnD at hf
          split at hf
          · rename_i f' hd
            cases hf
            exact hd
          · cases hf
        · have r := pc.2.1.view
          rw [hd] at r
          obtain ⟨b, hb, rfl⟩ := r.frz rfl
          exact ⟨f, fd, b, rfl, hb, hfd, ρ1, F1, R1, (Post.bnd' (p.shift bk_PC s1) fun as ρ2 vs F2 H2 _ R2 s2 pas p => call_core R2 s2 pas p)⟩
      · exact p.elim
    · exact p.elim
  refine wpAny_bind (thn (he.run pins s σ H Q1 I q1) fun u s1 ⟨x, H1, I1, rx, f, fd, b, ex, hb, hfd, q⟩ => ?_)
  subst ex
  obtain rfl : u = Value.ref b := rx
  obtain ⟨x, ps, Fa, hx⟩ := hfn f fd hfd
  obtain ⟨k, a', fdt, Fo, hr, hm, hk, hbn, _⟩ := Fa.ex
  have hab := hx b hb
  rw [hm] at hab
  cases hab
  refine PySem.W.callWith_K (h₀ := X.base) I1.ok.mod.kin hk (thn ((ha fd).run pos pins s1 σ H1 _ I1 q) fun us s2 ⟨vs, H2, I2, r, q2⟩ => ⟨I2.kIn, ?_⟩) (star_of hn) hpl
  exact run_fnS Fo hr hbn (passAt tk σ) I2 r q2
theorem se_fnv {x : Str} {f : Nat} {b : Addr} {pos : Pos} (hg : Gl X x) (hm : X.mg x = some (.ref b)) (hb : M.fa f = some b) (hdb : (x == ("__debug__" : Str)) = false) : PE X (.Name x pos) (tE g cl M W (.fnv f)) := by
  refine pe_imp (t := tC (.ref b)) ⟨fun pins s σ H Q I h => ?_⟩ fun σ H Q ⟨ρ, F, R, p⟩ => ?_
  · exact ld_glob I hg hm ⟨.ref b, H, I, rfl, h⟩ hdb
  · simp only [evE] at p
    exact p.fz R ⟨b, hb, rfl⟩
end
end Ev
end

section
set_option maxHeartbeats 0
namespace Eh
open PySem PySem.Spec PySem.Calls PyProof.Rows L2 Ev
/-- what a class must say for isinstance of its instances -/
structure XIs (F : PySem.W.Frag) (C : Addr) : Prop where
  cl : PySem.W.findIn F (.ref C) "__class__" = some (some (.builtin "object.__class__"))
  ge : PySem.W.specialIn F (.builtin "object.__class__") "__get__" = some (some (.builtin "getset_descriptor.__get__"))
  tk : PySem.W.takesIn F (.builtin "object.__class__") = some true
  mr : PySem.W.mroIn F C (.type "object") = some true
def xisB (F : PySem.W.Frag) (C : Addr) : Bool :=
  decide (PySem.W.findIn F (.ref C) "__class__" = some (some (.builtin "object.__class__"))) &&
  (decide (PySem.W.specialIn F (.builtin "object.__class__") "__get__" = some (some (.builtin "getset_descriptor.__get__"))) &&
  (decide (PySem.W.takesIn F (.builtin "object.__class__") = some true) && decide (PySem.W.mroIn F C (.type "object") = some true)))
theorem xisB_ok {F : PySem.W.Frag} {C : Addr} (h : xisB F C = true) : XIs F C := by
  simp only [xisB, Bool.and_eq_true, decide_eq_true_eq] at h
  exact ⟨h.1, h.2.1, h.2.2.1, h.2.2.2⟩
section
variable {P : Program} {w : World} {A : Around} {F : PySem.W.Frag} {e C : Addr} {oe dd : Obj}
theorem cls_found (T : XfC F C) (I : XIs F C) : PySem.W.findObj F C (some dd) "__class__" = some (.bind (.builtin "getset_descriptor.__get__") (.builtin "object.__class__")) := by
  obtain ⟨cd, hc, _⟩ := PySem.W.any_some T.hdC
  unfold PySem.W.findObj
  simp only [hc, I.cl, I.ge, I.tk, Option.bind_some]
theorem asks_class {s : Shared} {E : Value → Shared → Prop} {Q : Option Value → Shared → Prop} (T : XfC F C) (J : XIs F C) (kin : F.In s.heap) (at_ : PySem.W.InstAt s.heap e oe C (some dd)) (q : Q (some (.ref C)) { s with toks := s.toks + 1 }) :
    wpAny (model P w) A (getAttr? (.ref e) "__class__") Q E s := by
  have found := cls_found (dd := dd) T J
  obtain ⟨hp, gs, dr, n, os⟩ := s
  have ty := at_.type (M := model P w)
  have own := PySem.W.looks_findIn (M := model P w) kin T.ga
  have hook := PySem.W.looks_findIn (M := model P w) kin T.gg
  have attr := PySem.W.looks_find (M := model P w) kin at_ found
  have below : PySem.W.Looks (model P w) hp (isInstance (.ref e) (.type "BaseException")) true :=
    ty.andThen (PySem.W.looks_subIn kin T.exC)
  have other : (Value.builtin "BaseException.__getattribute__" == Value.builtin "object.__getattribute__") = false := by decide +kernel
  have neq : (onTheHeap (Value.ref C) && Value.builtin "BaseException.__getattribute__" == Value.builtin "object.__getattribute__") = false := by rw [other]; rfl
  unfold getAttr? getAttrBy? getAttrBy
  apply wpAny_bind; apply wpAny_mkText; apply wpAny_bind; apply wpAny_attempt; apply wpAny_holding; apply wpAny_bind
  apply ty.at; apply wpAny_bind; apply own.at
  show wpAny _ _ (if (onTheHeap (Value.ref C) && Value.builtin "BaseException.__getattribute__" == Value.builtin "object.__getattribute__") = true then _ else _) _ _ _
  rw [neq, if_neg Bool.false_ne_true]
  unfold getAttrByItsOwn hookBefore
  apply wpAny_bind
  rw [if_pos (show onTheHeap (Value.ref C) = true from rfl)]
  apply hook.at
  apply wpAny_bind; apply wpAny_attempt; apply wpAny_holding
  unfold callGetattribute
  rw [show (false && onTheHeap (Value.builtin "BaseException.__getattribute__")) = false from rfl, if_neg Bool.false_ne_true]
  unfold boundAndCalled
  rw [PySem.F.excAttr_ValueError.ga.bind (.ref e)]
  apply wpAny_bind; apply wpAny_pure
  show wpAny _ _ (call (.builtin "BaseException.__getattribute__") [.ref e, .str "__class__" n]) _ _ _
  apply wpAny_call
  apply codeAny_call_builtin PySem.F.excAttr_ValueError.ga.plain PySem.F.entry_bexc_ga
  refine @PySem.W.check_slot (model P w) _ _ ⟨hp, gs, dr, n + 1, os⟩ "BaseException.__getattribute__" "BaseException" "__getattribute__" (.ref e) [.str "__class__" n] [] _ (by decide +kernel) (by decide +kernel) below (PySem.F.args_bexc_ga (.ref e) (.str "__class__" n)) ?_
  unfold Builtin.«object.__getattribute__»
  refine wpAny_bind (wpAny_of_eq (a := ((Value.ref e : Value), [Value.str "__class__" n])) (by first | rfl | (simp only [slotArgs]; rfl)) ?_)
  apply wpAny_bind; apply wpAny_pure; apply wpAny_bind; apply ty.at; apply wpAny_bind; apply attr.at
  show wpAny _ _ (holding [Value.builtin "object.__class__"] (call (.builtin "getset_descriptor.__get__") [.builtin "object.__class__", .ref e, .ref C]) >>= ret) _ _ _
  apply wpAny_bind; apply wpAny_holding; apply wpAny_call
  refine PySem.W.class_get (s := ⟨hp, gs, dr, n + 1, os⟩) (ox := oe) (od := some dd) kin at_ J.mr ?_
  apply wpAny_pure
  show wpAny _ _ (handedOut (.ref C)) _ _ _
  rw [PySem.W.handedOut_of (v := .ref C) rfl]
  first
    | exact wpAny_pure (wpAny_pure q)
    | exact wpAny_pure q
    | exact wpAny_pure (wpAny_bind (wpAny_pure (wpAny_pure q)))
theorem kit_kept (T : XfC F C) (J : XIs F C) : PySem.W.KitX F (.ref e) (.ref C) (fun h => ∃ oe dd, PySem.W.InstAt h e oe C (some dd)) where
  ty := fun _ _ _ ⟨_, _, I⟩ => I.type
  it := fun _ _ kin _ => by
    obtain ⟨cd, hc, _⟩ := PySem.W.any_some T.hdC
    unfold PySem.W.clsIn at hc
    split at hc
    · rename_i c1 d1 cd1 sl1 ho
      intro A1 Q1 E1 s1 k q
      unfold isType loadHead
      exact wpAny_bind (wpAny_loadPart (k _ _ (kin _ _ ho)) (wpAny_pure q))
    · cases hc
  ne := fun h tp d its n sl kin htp => by
    obtain ⟨cd, hc, _⟩ := PySem.W.any_some T.hdC
    refine Bool.eq_false_iff.mpr fun q => ?_
    obtain rfl : C = tp := Value.ref.inj (beq_iff_eq.mp q)
    unfold PySem.W.clsIn at hc
    split at hc
    · rename_i c1 d1 cd1 sl1 ho
      have z := (kin _ _ ho).symm.trans htp
      cases z
    · cases hc
  ca := fun kin ⟨_, _, I⟩ k => asks_class T J kin I k
end
/-- isinstance(x, c), x a kept exception -/
def rKx (K : PySem.W.Frag) : List V → Hp → VK → Prop := fun xs H Q => ∃ (c : V) (u : Value) (b : Bool) (a C d : Addr) (fs : List (Str × V)), xs = [.ref a, c] ∧ ClsV c u ∧ H a = some (KeptX C d a) ∧ H d = some (.xd fs) ∧ XfC K C ∧ XIs K C ∧ PySem.W.kitOne K (.ref C) u = some b ∧ Q (.bl b) H
theorem call_kx {X : Cx} : CallR X (.builtin "isinstance") (rKx X.K) := by
  intro pins s σ H xs us Q I r h
  obtain ⟨c, u, b, a, C, d, fs, rfl, k, ea, ed, T, J, e, q⟩ := h
  obtain ⟨u1, u2, rfl, r1, r2⟩ := vals2 r
  cases (show u1 = Value.ref a from r1)
  have e2 := k.eq r2
  subst e2
  obtain ⟨⟨oe, vs, at_, z, dat⟩, _⟩ := I.hok a _ ea
  obtain ⟨mA, ns, rel⟩ : ObjOk X.prog X.w H s.heap d (.xd fs) := I.hok d _ ed
  obtain ⟨od, ho, look⟩ := lookIn_ns ns
  have inst : PySem.W.InstAt s.heap a oe C (some od) := ⟨at_, z.1, by unfold PySem.W.notCls; rw [dat] <;> rfl, by rw [z.2]; exact ho⟩
  exact PySem.W.kia_one (kit_kept T J) I.kIn ⟨oe, od, inst⟩ e (fun z => nomatch z) fun tk => ⟨.bl b, H, I.tok tk, rfl, q⟩
end Eh
end

section
set_option maxHeartbeats 0
namespace Eh
open PySem PySem.Spec PyProof.Rows L2 Ev
def spInit0 (K : PySem.W.Frag) (f : Str) : Sp := fun vs H Q _ => ∃ (a C : Addr), vs = [.ref a] ∧ OexC K C ∧ PySem.W.findIn K (.ref C) f = some none ∧ H a = some (exo a C none) ∧
  ∀ t, H t = none → ∀ dx, (L2.upd H t (.tup [])) dx = none → dx ≠ a → Q .non (L2.upd (L2.upd (L2.upd H t (.tup [])) dx (exd dx [(f, .ref t)])) a (exo a C (some dx)))
/-- the text of such an __init__ -/
def initB0 (f : Str) : List Stmt → Bool
  | [.Assign [.Attribute (.Name x _) g _] (.Tuple [] _ _) _] => decide (x = "self") && decide (g = f)
  | _ => false
theorem exInit0 {P : Program} {w : World} {K : PySem.W.Frag} {mg : Str → Option Value} {base : Heap} {fI : Addr} {fd : FuncData} {nm qual f : Str} {params : Arguments} {body : List Stmt} {scope : Scope} {dvs : List V} {kws : List (Str × V)}
    (FD : FunD K nm qual params body scope dvs kws fI fd) (S : FnScope ["self"] ["self"] scope) (hb : initB0 f body = true)
    (l0 : scope.names.lookup ("self" : Str) = some .local) : FnOk P w K mg base (L2.CX P w) 1 fI fd ["self"] (spInit0 K f) := by
  refine FD.ok S (fun vs H Q E ⟨a, C, e, _⟩ => by rw [e]; rfl) fun cdv A outer s H vs Q E hr ⟨a, C, e, T, no, ea, q⟩ => ?_
  subst e
  unfold initB0 at hb
  split at hb
  · simp only [Bool.and_eq_true, decide_eq_true_eq] at hb
    obtain ⟨rfl, rfl⟩ := hb
    exact ⟨_, pss_one (ps_ost (pe_var (i := 0) rfl (.inl l0)) (pe_tup pa_nil)), show _ ∧ _ from ⟨by simp [sizeLine], fun t nt => ⟨.ref a, rfl, a, C, rfl, T, no, .inl ⟨by rw [upd_ne fun z => by rw [← z, ea] at nt; cases nt]; exact ea, q t nt⟩⟩⟩⟩
  · cases hb
/-- what is left of the making -/
theorem mk0 {K : PySem.W.Frag} {C : Addr} {f : Str} {H1 : Hp} {Q : XK} (T : OexC K C) (no : PySem.W.findIn K (.ref C) f = some none) (h : ∀ t, H1 t = none → ∀ d, (L2.upd H1 t (.tup [])) d = none → Q (.ref C) (some d) (L2.upd (L2.upd H1 t (.tup [])) d (.xd [(f, .ref t)]))) :
    ∀ a, H1 a = none → spInit0 K f [.ref a] (L2.upd H1 a (exo a C none)) (fun v H2 => v = .non ∧ ∃ (d : Addr) (fs : List (Str × V)), H2 a = some (exo a C (some d)) ∧ H2 d = some (exd d fs) ∧ H1 d = none ∧ Q (.ref C) (some d) (L2.upd (del H2 a) d (.xd fs))) (fun _ _ _ => False) := by
  refine fun a na => ⟨a, C, rfl, T, no, upd_same, fun t nt dx nd ne => ⟨rfl, dx, [(f, .ref t)], upd_same, ?_, ?_, ?_⟩⟩
  · rw [upd_ne ne, upd_same]
  all_goals
    have hta : t ≠ a := fun z => by rw [z, upd_same] at nt; cases nt
    have nt1 : H1 t = none := by rw [upd_ne hta] at nt; exact nt
    have htd : dx ≠ t := fun z => by rw [z, upd_same] at nd; cases nd
    have nd1 : H1 dx = none := by rw [upd_ne htd, upd_ne ne] at nd; exact nd
  · exact nd1
  · have e : L2.upd (del (L2.upd (L2.upd (L2.upd (L2.upd H1 a (exo a C none)) t (.tup [])) dx (exd dx [(f, .ref t)])) a (exo a C (some dx))) a) dx (.xd [(f, .ref t)]) = L2.upd (L2.upd H1 t (.tup [])) dx (.xd [(f, .ref t)]) := by
      funext b
      by_cases h1 : b = dx
      · subst h1; rw [upd_same, upd_same]
      · rw [upd_ne h1, upd_ne h1]
        by_cases h2 : b = a
        · subst h2; rw [del_same, upd_ne (Ne.symm hta), na]
        · rw [del_ne h2, upd_ne h2, upd_ne h1]
          by_cases h3 : b = t
          · subst h3; rw [upd_same, upd_same]
          · rw [upd_ne h3, upd_ne h2, upd_ne h3]
    rw [e]
    exact h t nt1 dx (by rw [upd_ne htd]; exact nd1)
/-- C(..) with values us already there -/
theorem mk_run {X : Cx} {C fI : Addr} {k : Nat} {fd : FuncData} {ps : List Str} {sp : Sp} {pins : List (Addr × Obj)} {σ : L2.St} {H1 : Hp} {s1 : Shared} {us : List Value} {vs : List V} {Q : XK} (T : OexC X.K C) (iC : PySem.W.findIn X.K (.ref C) "__init__" = some (some (.ref fI))) (tI : PySem.W.typeIn X.K (.ref fI) = some (.type "function"))
    (F1 : FnOk X.prog X.w X.K X.mg X.base (L2.CX X.prog X.w) k fI fd ps sp) (hr : Room (k + 1) X.A) (hb : Binds X.K fd ps []) (I1 : Inv X pins σ H1 s1) (r1 : Vals vs us) (hz : vs.length ≤ 1000)
    (q1 : ∀ a, H1 a = none → sp (.ref a :: vs) (L2.upd H1 a (exo a C none)) (fun v H2 => v = .non ∧ ∃ (d : Addr) (fs : List (Str × V)), H2 a = some (exo a C (some d)) ∧ H2 d = some (exd d fs) ∧ H1 d = none ∧ Q (.ref C) (some d) (L2.upd (del H2 a) d (.xd fs))) (fun _ _ _ => False)) :
    wpAny (model X.prog X.w) X.A (call (.ref C) us) (MkP X pins σ Q) X.xe s1 := by
  obtain ⟨nm, qn, N, bs, bm, sn, sub, ab, col, dd, k0, k1, k2, k3, k5, hC, hbm⟩ := T.cls
  obtain ⟨hp, gs, dr, n, os⟩ := s1
  have up1 : hp.objs.size ≤ hp.objs.size + 1 := Nat.le_succ _
  have new : H1 (hp.objs.size + 1) = none := I1.hok.fresh up1
  have stays : ∀ b o, hp.get? b = some o → ((hp.push (PySem.W.kdv_tup us)).push (PySem.HandSPX.excO C hp.objs.size)).get? b = some o :=
    fun b o e => Heap.get?_push_of_some _ (Heap.get?_push_of_some _ e)
  have there : ((hp.push (PySem.W.kdv_tup us)).push (PySem.HandSPX.excO C hp.objs.size)).get? (hp.objs.size + 1) = some (PySem.HandSPX.excO C hp.objs.size) := by heap_get
  have I2 := I1.laid (t' := n) (o := exo (hp.objs.size + 1) C none) stays up1 (exo_ok there)
  have len : us.length ≤ sizeLine := by
    rw [← Paired.length r1, sizeLine_eq]
    omega
  have vals : Vals (V.ref (hp.objs.size + 1) :: vs) (Value.ref (hp.objs.size + 1) :: us) := .cons rfl r1
  have q2 := q1 _ new
  have args : (Value.ref (hp.objs.size + 1) :: us ++ []).length = ps.length := by
    have := vals.length
    rw [F1.len _ _ _ _ q2] at this
    rw [List.append_nil]
    exact this.symm
  have bind := hb _ (Value.ref (hp.objs.size + 1) :: us) I2.kIn args
  rw [List.append_nil] at bind
  refine wpAny_call (PySem.HandSPX.call_own F.excBase_ValueError (fun Y => PySem.HandSPX.refsVE_contains Y bm hbm) (I1.kIn _ _ hC) (PySem.W.looks_findIn I1.kIn iC) (fun self => PySem.W.bind_fn I1.kIn self tI) len ?_)
  refine codeAny_mono (F1.run _ X.stack _ _ ⟨Value.ref (hp.objs.size + 1) :: us, []⟩ _ _ _ (fun _ _ _ => False) (hr.make C us []) (I2.env0.make C us []) bind vals q2) fun r s2 fin => ?_
  cases r with
  | error er => exact no_pass rfl rfl pins σ _ _ er s2 I2 fin
  | ok fl =>
    cases fl with
    | ret u =>
      obtain ⟨v, H2, os2, bare2, un2, hok2, rv, ev, d, fs, ea, ed, nd, q3⟩ := fin
      subst ev
      obtain ⟨h2, g2, d2, t2, os3⟩ := s2
      exact ⟨rv, mk_end (raises_own T.exC T.tyC) I1 up1 stays un2 hok2 os2 bare2 ea ed nd q3⟩
    | next => exact fin.elim
    | brk => exact fin.elim
    | cont => exact fin.elim
/-- what is known of an exception class without values -/
structure XCls0 (P : Program) (w : World) (K : PySem.W.Frag) (mg : Str → Option Value) (base : Heap) (x f : Str) (C : Addr) : Prop where
  ox : OexC K C
  xf : XfC K C
  no : PySem.W.findIn K (.ref C) f = some none
  mgC : mg x = some (.ref C)
  db : (x == ("__debug__" : Str)) = false
  ini : ∃ (fI : Addr) (fd : FuncData), PySem.W.findIn K (.ref C) "__init__" = some (some (.ref fI)) ∧ PySem.W.typeIn K (.ref fI) = some (.type "function") ∧ FnOk P w K mg base (L2.CX P w) 1 fI fd ["self"] (spInit0 K f) ∧ Binds K fd ["self"] []
def tMk0 (C : Addr) (f : Str) : L2.St → Hp → XK → Prop := fun σ H Q => ∀ t, H t = none → ∀ d, (L2.upd H t (.tup [])) d = none → Q (.ref C) (some d) (L2.upd (L2.upd H t (.tup [])) d (.xd [(f, .ref t)]))
theorem pmk_0 {X : Cx} {x f : Str} {C : Addr} {p pos : Pos} (T : XCls0 X.prog X.w X.K X.mg X.base x f C) (hr : Room 2 X.A) (hg : Gl X x) : PMk X (.Call (.Name x p) [] [] pos) (tMk0 C f) := by
  intro pins s σ H Q I h
  obtain ⟨fI, fd, iC, tI, F1, hb⟩ := T.ini
  refine wpAny_Call_Name_kw (ld_glob I hg T.mgC ?_ T.db)
  refine PySem.W.callWith_K0 I.kIn T.ox.kC ?_
  exact mk_run T.ox iC tI F1 hr hb I .nil (Nat.zero_le _) (mk0 T.ox T.no h)
end Eh
end

section
set_option maxHeartbeats 0
namespace Eh
open PySem PySem.Spec PyProof.Rows L2 Ev
theorem regen {X : Cx} {pins : List (Addr × Obj)} {σ : L2.St} {H : Hp} {s s' : Shared} (I : Inv X pins σ H s) (hh : s'.heap = s.heap) (ho : s'.os = s.os) (b : AllBare s'.gens) : Inv X pins σ H s' := by
  obtain ⟨h, gs, dr, n, os⟩ := s
  obtain ⟨h', gs', dr', n', os'⟩ := s'
  dsimp only at hh ho
  subst hh ho
  exact ⟨I.ok, I.os, b, I.base, I.loc, I.cell, I.free, I.freeC, I.pin, I.hok, I.len⟩
def tMade (t : L2.St → Hp → XK → Prop) : TE := fun σ H Q => t σ H fun cls dd H1 => ∃ (C d : Addr), cls = .ref C ∧ dd = some d ∧ ∀ a, H1 a = none → Q (.ref a) (L2.upd H1 a (KeptX C d a))
theorem pe_made {X : Cx} {e : Expr} {t : L2.St → Hp → XK → Prop} (h : PMk X e t) : PE X e (tMade t) := by
  refine ⟨fun pins s σ H Q I hq => wpAny_mono (h pins s σ H _ I hq) (fun u s1 m => ?_) fun _ _ z => z⟩
  obtain ⟨a, oe, vs, s0, H1, cls, dd, rfl, J, keep, new, there, z, dat, _, na, os, bare, _, C, d, rfl, rfl, q⟩ := m
  have J1 := J.laidN (t' := s1.toks) keep new na (keptX_ok there ⟨z.1, z.2⟩ dat)
  exact ⟨.ref a, _, regen J1 rfl os bare, rfl, q a na⟩
end Eh
end

section
set_option maxHeartbeats 0
namespace Eh
open PySem PySem.Spec PySem.Calls PyProof.Rows PySem.HandSPX
section
variable {prog : Program} {w : World} {A : Around} {E : Value → Shared → Prop} {R : Result → Shared → Prop} {h : Heap} {gs : Array GenState} {d : Drawn} {t : Nat} {os : OsState}
variable {nm qn x : Str} {C N : Addr} {bs bm : List Value} {hd : Bool} {sn : List Str} {sub : List Value} {ab : Bool} {col : Option Bool} {dd : Option Addr} {k0 k1 k2 k3 k5 : Option Value} {v : Value}
theorem kw_check {Q : Unit → Shared → Prop} {bmB : List Value} {newId : String} {initId : String} {B : String} (F : ExcBaseFacts B newId initId bmB) (hT : ∀ X : String, bm.contains (.type X) = bmB.contains (.type X))
    (hC : h.get? C = some (excClassObj nm qn C N bs bm hd sn sub ab col dd k0 k1 k2 k3 k5 newId)) (q : Q () ⟨h, gs, d, t, os⟩) :
    wpAny (model prog w) A (checkBuiltinCall newId ⟨[.ref C], [(x, v)]⟩) Q E ⟨h, gs, d, t, os⟩ := by
  have below : (Value.ref C :: bm).contains (.type B) = true := by rw [List.contains_cons, hT, F.hasB, Bool.or_true]
  have star := F.noStar
  simp only [checkBuiltinCall, F.newKind, F.newSplit, F.newRow]
  repeat (first
    | refine wpAny_loadPart_at hC ?_
    | (refine wpAny_isSubtype_exc hC ?_; rw [below])
    | refine wpAny_staticBase_exc hC ?_
    | refine wpAny_madeBy_exc hC ?_
    | simp only [bne_self_eq_false, Bool.false_eq_true, if_false]
    | wp_step)
  exact q
theorem kw_new {bmB : List Value} {newId : String} {initId : String} {B : String} (F : ExcBaseFacts B newId initId bmB) (hT : ∀ X : String, bm.contains (.type X) = bmB.contains (.type X))
    (hC : h.get? C = some (excClassObj nm qn C N bs bm hd sn sub ab col dd k0 k1 k2 k3 k5 newId))
    (q : R (.ok (.ret (.ref (h.objs.size + 1)))) ⟨(h.push (W.kdv_tup [])).push (excO C h.objs.size), gs, d, t, os⟩) :
    codeAny (model prog w) A (.builtin newId ⟨[.ref C], [(x, v)]⟩) R ⟨h, gs, d, t, os⟩ := by
  have fin := F.ends
  have isB : (Value.ref C :: bm).contains (.type B) = true := by rw [List.contains_cons, hT, F.hasB, Bool.or_true]
  have noA : (Value.ref C :: bm).contains (.type "AttributeError") = false := by rw [List.contains_cons, hT, F.noAttr]; rfl
  have noN : (Value.ref C :: bm).contains (.type "NameError") = false := by rw [List.contains_cons, hT, F.noName]; rfl
  refine codeAny_builtinAt F.entry ?_
  unfold Builtin.«BaseException.__new__»
  refine PySem.wpAt_bind ?_
  show PySem.wpAt _ _ _ (stack >>= _) _ _ _
  refine PySem.wpAt_bind (PySem.wpAt_stack fun p below => PySem.wpAt_of_wpAny ?_)
  wp_walk
  refine PySem.wpAt_of_wpAny ?_
  rw [F.owner]
  repeat (first
    | with_reducible refine wpAny_madeHere_exc F.canon hC ?_
    | with_reducible refine wpAny_loadPart_at hC ?_
    | (with_reducible refine wpAny_isSubtype_exc hC ?_; first | rw [isB] | rw [noA] | rw [noN])
    | wp_step)
  show R _ _
  rw [Heap.size_push]
  exact q
theorem kw_make {bmB : List Value} {newId : String} {initId : String} {B : String} (F : ExcBaseFacts B newId initId bmB) (hT : ∀ X : String, bm.contains (.type X) = bmB.contains (.type X)) {fI : Addr}
    (hC : h.get? C = some (excClassObj nm qn C N bs bm hd sn sub ab col dd k0 k1 k2 k3 k5 newId)) (hi : W.Looks (model prog w) h (typeLookup (.ref C) "__init__") (some (.ref fI)))
    (hb : ∀ self, W.Looks (model prog w) h (bindSpecial (.ref fI) self) (.ref fI, [self])) {Q : Fin → Shared → Prop}
    (q : codeAny (model prog w) A (.call (.ref fI) ⟨[.ref (h.objs.size + 1)], [(x, v)]⟩)
      (fun r s' => match r with | .ok (.ret u) => u = .none ∧ Q (.done (.ret (.ref (h.objs.size + 1)))) s' | .ok _ => False | .error e => E e s')
      ⟨(h.push (W.kdv_tup [])).push (excO C h.objs.size), gs, d, t, os⟩) :
    wpAny (model prog w) A (Builtin.«type.__call__» ⟨[.ref C], [(x, v)]⟩) Q E ⟨h, gs, d, t, os⟩ := by
  repeat (first
    | with_reducible refine wpAny_loadPart_at hC ?_
    | with_reducible refine wpAny_madeBy_exc hC ?_
    | wp_step)
  refine codeAny_call_builtin_code (Code.quiet_builtin _ F.quiet) (kw_check F hT hC (kw_new F hT hC ?_))
  show wpAny _ _ _ _ _ _
  have stays : ∀ b o, h.get? b = some o → ((h.push (W.kdv_tup [])).push (excO C h.objs.size)).get? b = some o :=
    fun b o e => Heap.get?_push_of_some _ (Heap.get?_push_of_some _ e)
  have there : ((h.push (W.kdv_tup [])).push (excO C h.objs.size)).get? (h.objs.size + 1) = some (excO C h.objs.size) := by heap_get
  have mine : (Value.ref C :: bm).contains (.ref C) = true := by simp
  have C1 := stays _ _ hC
  have i1 := hi.keeps stays
  have b1 := (hb (.ref (h.objs.size + 1))).keeps stays
  unfold isInstance
  repeat (first
    | with_reducible refine wpAny_loadPart_at there ?_
    | (with_reducible refine wpAny_isSubtype_exc C1 ?_; rw [mine])
    | wp_step)
  show wpAny _ _ (typeLookup (.ref C) _) _ _ _
  refine i1.at (wpAny_holding (wpAny_bind (b1.at (wpAny_bind (wpAny_call (codeAny_mono q fun r s' z => ?_))))))
  rcases r with e | (u | _ | _ | _) <;> first | exact z | exact z.elim | skip
  obtain ⟨rfl, z⟩ := z
  first
    | exact wpAny_pure (wpAny_pure z)
    | (wp_walk; exact z)
theorem kw_call {bmB : List Value} {newId : String} {initId : String} {B : String} (F : ExcBaseFacts B newId initId bmB) (hT : ∀ X : String, bm.contains (.type X) = bmB.contains (.type X)) {fI : Addr}
    (hC : h.get? C = some (excClassObj nm qn C N bs bm hd sn sub ab col dd k0 k1 k2 k3 k5 newId)) (hi : W.Looks (model prog w) h (typeLookup (.ref C) "__init__") (some (.ref fI)))
    (hb : ∀ self, W.Looks (model prog w) h (bindSpecial (.ref fI) self) (.ref fI, [self]))
    (q : codeAny (model prog w) (A.under (.builtin "type.__call__" ⟨[.ref C], [(x, v)]⟩)) (.call (.ref fI) ⟨[.ref (h.objs.size + 1)], [(x, v)]⟩) (W.InitBack (h.objs.size + 1) R)
      ⟨(h.push (W.kdv_tup [])).push (excO C h.objs.size), gs, d, t, os⟩) :
    codeAny (model prog w) A (.call (.ref C) ⟨[], [(x, v)]⟩) R ⟨h, gs, d, t, os⟩ := by
  have l1 := tc_lookup
  have l2 := tc_bind (.ref C)
  have ty : (⟨h, gs, d, t, os⟩ : Shared).TypeIs (.ref C) "type" := ⟨_, hC, rfl⟩
  refine codeAny_of_tree ?_
  show wpAny _ _ (callAny (.ref C) _) _ _ _
  repeat (any_goals (first | assumption | with_reducible refine wpAny_loadPart_at hC ?_ | wp_step))
  refine ⟨rfl, codeAny_call_builtin_at (Code.quiet_builtin _ (by decide +kernel)) entry_typeCall (wpAny_check_type_call_sub hC (kw_make F hT hC hi hb (codeAny_mono q fun r s' z => ?_)))⟩
  rcases r with e | (u | _ | _ | _) <;> exact z
end
end Eh
namespace Eh
open PySem PySem.Spec PyProof.Rows L2 Ev
theorem kw_run {X : Cx} {C fI : Addr} {k : Nat} {fd : FuncData} {f : Str} {sp : Sp} {pins : List (Addr × Obj)} {σ : L2.St} {H1 : Hp} {s1 : Shared} {u : Value} {v : V} {Q : XK} (T : OexC X.K C) (iC : PySem.W.findIn X.K (.ref C) "__init__" = some (some (.ref fI))) (tI : PySem.W.typeIn X.K (.ref fI) = some (.type "function"))
    (F1 : FnOk X.prog X.w X.K X.mg X.base (L2.CX X.prog X.w) k fI fd ["self", f] sp) (hr : Room (k + 1) X.A) (hb : ∀ (s : Shared) (u v : Value), X.K.In s.heap → BindsTo s fd ⟨[u], [(f, v)]⟩ [("self", u), (f, v)]) (I1 : Inv X pins σ H1 s1) (r1 : RelV v u)
    (q1 : ∀ a, H1 a = none → sp [.ref a, v] (L2.upd H1 a (exo a C none)) (fun v H2 => v = .non ∧ ∃ (d : Addr) (fs : List (Str × V)), H2 a = some (exo a C (some d)) ∧ H2 d = some (exd d fs) ∧ H1 d = none ∧ Q (.ref C) (some d) (L2.upd (del H2 a) d (.xd fs))) (fun _ _ _ => False)) :
    wpAny (model X.prog X.w) X.A (call (.ref C) [] [(f, u)]) (MkP X pins σ Q) X.xe s1 := by
  obtain ⟨nm, qn, N, bs, bm, sn, sub, ab, col, dd, k0, k1, k2, k3, k5, hC, hbm⟩ := T.cls
  obtain ⟨hp, gs, dr, n, os⟩ := s1
  have up1 : hp.objs.size ≤ hp.objs.size + 1 := Nat.le_succ _
  have new : H1 (hp.objs.size + 1) = none := I1.hok.fresh up1
  have stays : ∀ b o, hp.get? b = some o → ((hp.push (PySem.W.kdv_tup [])).push (PySem.HandSPX.excO C hp.objs.size)).get? b = some o :=
    fun b o e => Heap.get?_push_of_some _ (Heap.get?_push_of_some _ e)
  have there : ((hp.push (PySem.W.kdv_tup [])).push (PySem.HandSPX.excO C hp.objs.size)).get? (hp.objs.size + 1) = some (PySem.HandSPX.excO C hp.objs.size) := by heap_get
  have I2 := I1.laid (t' := n) (o := exo (hp.objs.size + 1) C none) stays up1 (exo_ok there)
  have vals : Vals [V.ref (hp.objs.size + 1), v] [Value.ref (hp.objs.size + 1), u] := .cons rfl (.cons r1 .nil)
  refine wpAny_call (kw_call F.excBase_ValueError (fun Y => PySem.HandSPX.refsVE_contains Y bm hbm) (I1.kIn _ _ hC) (PySem.W.looks_findIn I1.kIn iC) (fun self => PySem.W.bind_fn I1.kIn self tI) ?_)
  refine codeAny_mono (F1.run _ X.stack _ _ ⟨[Value.ref (hp.objs.size + 1)], [(f, u)]⟩ _ _ _ (fun _ _ _ => False) (hr.make C [] [(f, u)]) (I2.env0.make C [] [(f, u)]) (hb _ _ u I2.kIn) vals (q1 _ new)) fun r s2 fin => ?_
  cases r with
  | error er => exact no_pass rfl rfl pins σ _ _ er s2 I2 fin
  | ok fl =>
    cases fl with
    | ret u2 =>
      obtain ⟨v2, H2, os2, bare2, un2, hok2, rv, ev, d, fs, ea, ed, nd, q3⟩ := fin
      subst ev
      obtain ⟨h2, g2, d2, t2, os3⟩ := s2
      exact ⟨rv, mk_end (raises_own T.exC T.tyC) I1 up1 stays un2 hok2 os2 bare2 ea ed nd q3⟩
    | next => exact fin.elim
    | brk => exact fin.elim
    | cont => exact fin.elim
theorem pmk_k {X : Cx} {x f : Str} {C : Addr} {e : Expr} {te : TE} {p kp pos : Pos} (T : XCls X.prog X.w X.K X.mg X.base x f C) (hr : Room 2 X.A) (hg : Gl X x) (he : PE X e te) :
    PMk X (.Call (.Name x p) [] [⟨some f, e, kp⟩] pos) (tMkO C (spInit X.K f) [] (tCons te tNil)) := by
  intro pins s σ H Q I h
  obtain ⟨fI, fd, iC, tI, F1, _, hb⟩ := T.ini
  refine wpAny_Call_Name_kw (ld_glob I hg T.mgC ?_ T.db)
  refine PySem.W.callWith_KW0 (h₀ := X.base) I.ok.mod.kin T.ox.kC rfl ?_ rfl
  refine thn ((pk_cons he pk_nil).run pos pins s σ H _ I h) fun ws s2 ⟨zs, H2, I2, rz, hz, q2⟩ => ⟨I2.kIn, ?_⟩
  have l1 : ∃ v, zs = [v] := by
    have q3 := q2 _ (I2.hok.fresh (Nat.le_refl _))
    have := F1.len _ _ _ _ q3
    simp only [List.length_cons, List.append_nil, List.length_nil] at this
    match zs, this with
    | [v], _ => exact ⟨v, rfl⟩
  obtain ⟨v, rfl⟩ := l1
  obtain ⟨u, ws', rfl, r1, r2⟩ : ∃ u ws', ws = u :: ws' ∧ RelV v u ∧ ws' = [] := by
    cases rz with
    | cons r rr => cases rr; exact ⟨_, _, rfl, r, rfl⟩
  subst r2
  exact kw_run T.ox iC tI F1 hr hb I2 r1 q2
end Eh
end

section
set_option maxHeartbeats 0
namespace Eh
open PySem PySem.Spec PyProof.Rows L2 Ev
/-- an exception class, with a value or without one -/
def XEi (P : Program) (w : World) (K : PySem.W.Frag) (mg : Str → Option Value) (base : Heap) (x f : Str) (C : Addr) : Bool → Prop
  | false => XCls P w K mg base x f C
  | true => XCls0 P w K mg base x f C
section
variable {P : Program} {w : World} {K : PySem.W.Frag} {mg : Str → Option Value} {base : Heap} {x f : Str} {C : Addr} {z : Bool}
theorem XEi.xf (h : XEi P w K mg base x f C z) : XfC K C := by cases z with | false => exact XCls.xf h | true => exact XCls0.xf h
theorem XEi.no (h : XEi P w K mg base x f C z) : PySem.W.findIn K (.ref C) f = some none := by cases z with | false => exact XCls.no h | true => exact XCls0.no h
theorem XEi.mgC (h : XEi P w K mg base x f C z) : mg x = some (.ref C) := by cases z with | false => exact XCls.mgC h | true => exact XCls0.mgC h
theorem XEi.db (h : XEi P w K mg base x f C z) : (x == ("__debug__" : Str)) = false := by cases z with | false => exact XCls.db h | true => exact XCls0.db h
end
/-- the name of a class, own or built in -/
def ClsN (mg : Str → Option Value) (x : Str) (u : Value) : Prop := (x == ("__debug__" : Str)) = false ∧ ((∃ D, mg x = some (.ref D) ∧ u = .ref D) ∨ ∃ n, mg x = none ∧ bootBuiltins x = some (.type n) ∧ u = .type n ∧ x ≠ "__name__")
theorem ClsN.pe {X : Cx} {x : Str} {u : Value} {pos : Pos} (h : ClsN X.mg x u) (hg : Gl X x) : ∃ v, ClsV v u ∧ PE X (.Name x pos) (tC v) := by
  obtain ⟨db, ⟨D, hm, rfl⟩ | ⟨n, hm, hb, rfl, hn⟩⟩ := h
  · exact ⟨.ref D, .own D, ⟨fun pins s σ H Q I q => ld_glob I hg hm ⟨.ref D, H, I, rfl, q⟩ db⟩⟩
  · exact ⟨.ty n, .ty n, pe_bltn hg hm hb rfl hn db⟩
/-- isinstance of an exception or a plain value -/
def rIsx (K : PySem.W.Frag) : List V → Hp → VK → Prop := fun xs H Q => rKx K xs H Q ∨ rIsi K xs H Q
theorem call_any {X : Cx} : CallR X (.builtin "isinstance") (rIsx X.K) := by
  intro pins s σ H xs us Q I r h
  rcases h with h | h
  · exact call_kx pins s σ H xs us Q I r h
  · exact call_isi pins s σ H xs us Q I r h
end Eh
namespace Ev
open PySem PySem.Spec PyProof.Rows L2 Eh
section
variable {g : G} {cl : Nat → List Cell → Option (R Cell)} {M : Mx} {W : L2.WX} {X : Cx} {n : Nat} {pr : List Nat}
theorem nv_isx {xi : Option Nat → Str → Option Bool} {x : Str} {d : D} {c : Cell} (h : isxD xi x d = some c) : nv c := by
  unfold isxD at h
  split at h
  · obtain ⟨b, _, rfl⟩ := Option.map_eq_some_iff.mp h; trivial
  · obtain ⟨b, _, rfl⟩ := Option.map_eq_some_iff.mp h; trivial
  · cases h
/-- what is known of isinstance -/
def XiOk (g : G) (M : Mx) (K : PySem.W.Frag) (mg : Str → Option Value) : Prop := ∀ k x b, g.xi k x = some b → ∃ u, ClsN mg x u ∧ match k with
  | some k => ∃ C, M.ca k = some C ∧ XIs K C ∧ XfC K C ∧ PySem.W.kitOne K (.ref C) u = some b
  | none => PySem.W.kitOne K (.type "NoneType") u = some b
theorem se_isx (hK : M.K = X.K) (hx : XiOk g M X.K X.mg) {e : Expr} {m : Ex} {x : Str} {u : Value} {p p2 pos : Pos} (hg : Gl X "isinstance") (hm : X.mg "isinstance" = none) (hn : nst e = true) (hgx : Gl X x) (hc : ClsN X.mg x u)
    (hpl : (backTo pos (starEach [.Name x p2] X.env)).any (·.1) = false) (he : PE X e (tO g cl M W m)) : PE X (.Call (.Name "isinstance" p) [e, .Name x p2] [] pos) (tE g cl M W (.isx x m)) := by
  obtain ⟨cv, kv, pc⟩ := hc.pe (pos := p2) hgx
  refine pe_imp (pe_callB call_any hg hm boot_isinstance (pa_cons he (pa_cons pc pa_nil (star_of rfl)) (star_of hn)) (he := star_of hn) (hpl := hpl)) fun σ H Q ⟨ρ, F, R, p⟩ => ?_
  simp only [evE] at p
  refine one_op (f := isxD g.xi x) (r := fun v H1 Q => rIsx X.K [v, cv] H1 Q) R p (fun _ _ => nv_isx) fun v H2 F2 d c h1 h2 h3 h4 => ?_
  have uniq : ∀ u', ClsN X.mg x u' → u' = u := fun u' h' => by
    obtain ⟨_, h'⟩ := h'
    obtain ⟨_, h0⟩ := hc
    rcases h0 with ⟨D, a1, rfl⟩ | ⟨n, a1, a2, rfl, _⟩ <;> rcases h' with ⟨D', b1, rfl⟩ | ⟨n', b1, b2, rfl, _⟩
    · rw [a1] at b1; cases b1; rfl
    · rw [a1] at b1; cases b1
    · rw [a1] at b1; cases b1
    · rw [a2] at b2; cases b2; rfl
  unfold isxD at h3
  split at h3
  · rename_i c0 fs0
    obtain ⟨b, hb, rfl⟩ := Option.map_eq_some_iff.mp h3
    obtain ⟨u', hu', C, hC, J, T, hk⟩ := hx _ _ _ hb
    obtain rfl := uniq u' hu'
    have r := h2.frz rfl
    obtain ⟨a, C', d, vs, rfl, eC, ea, ed, l, r⟩ := r
    rw [hC] at eC; cases eC
    exact .inl ⟨cv, _, b, a, C, d, _, rfl, kv, h1 _ _ ea, h1 _ _ ed, T, J, hk, h4.fz h1 (v := .bl b) rfl⟩
  · obtain ⟨b, hb, rfl⟩ := Option.map_eq_some_iff.mp h3
    obtain ⟨u', hu', hk⟩ := hx _ _ _ hb
    obtain rfl := uniq u' hu'
    have ev : v = .non := h2.frz rfl
    subst ev
    exact .inr ⟨_, cv, _, _, b, rfl, kv, .base .non, hk, h4.fz h1 (v := .bl b) rfl⟩
  · cases h3
/-- a fresh exception of a value that is everybody's -/
theorem made_fz {σ : L2.St} {ρ1 : Rho} {F1 H1 : Hp} {S : Sta} {Q : VK} {c : Nat} {C d : Addr} {f : Str} {fs : List D} {vs : List V} (hC : M.ca c = some C) (hf : M.xf c = [f]) (l1 : vs.length = 1) (p : Post M W σ S (PC M σ) Q (some (.ok (.fz (.exc c fs)) ρ1))) (R1 : Rl M ρ1 σ F1 H1) (s0 : Sp' S ρ1 σ F1 H1) (rr : RepsF M F1 fs vs) (nd : H1 d = none) :
    ∀ a, (L2.upd H1 d (.xd ([f].zip vs))) a = none → Q (.ref a) (L2.upd (L2.upd H1 d (.xd ([f].zip vs))) a (KeptX C d a)) := by
  intro a na
  have hF := Ev.le.none R1.le nd
  have hle := Ev.le.upd (o := .xd ([f].zip vs)) hF
  obtain ⟨R2, s2⟩ := R1.new (F1 := L2.upd F1 d (.xd ([f].zip vs))) (H1 := L2.upd H1 d (.xd ([f].zip vs))) hle (Ev.le.upd nd) (Ev.le.upd2 R1.le) fun b hb => upd_ne fun z => hb (z ▸ nd)
  have hF2 := Ev.le.none R2.le na
  have hle2 := Ev.le.upd (o := KeptX C d a) hF2
  obtain ⟨R3, s3⟩ := R2.new (F1 := L2.upd (L2.upd F1 d (.xd ([f].zip vs))) a (KeptX C d a)) (H1 := L2.upd (L2.upd H1 d (.xd ([f].zip vs))) a (KeptX C d a)) hle2 (Ev.le.upd na) (Ev.le.upd2 R2.le) fun b hb => upd_ne fun z => hb (z ▸ na)
  refine p.ok R3 ((s0.trans s2).trans s3) ⟨trivial, ⟨a, C, d, vs, rfl, hC, upd_same, ?_, ?_, RepsF.mono hle2 _ _ (RepsF.mono hle _ _ rr)⟩, fun b hb => absurd hb.1 (by simp [isOwn])⟩
  · rw [hf]; exact hle2 _ _ upd_same
  · rw [hf, l1]; rfl
theorem mk_arg {c : Nat} {C : Addr} {x f : Str} {b : Bool} {m : Ex} {σ : L2.St} {H : Hp} {Q : VK} {base : Heap} {mg : Str → Option Value} {P : Program} {w : World} (hC : M.ca c = some C) (hf : M.xf c = [f]) (hz : g.x0 c = false) (T : XCls P w X.K mg base x f C) (h : tE g cl M W (.mkx c (.cons b m .nil)) σ H Q) (hb : b = false) :
    tD g cl M W (.cons false m .nil) σ H fun vs H1 => vs.length ≤ 1000 ∧ ∀ a, H1 a = none → spInit X.K f (.ref a :: (vs ++ [])) (L2.upd H1 a (exo a C none)) (fun v H2 => v = .non ∧ ∃ (d : Addr) (fs : List (Str × V)), H2 a = some (exo a C (some d)) ∧ H2 d = some (exd d fs) ∧ H1 d = none ∧ ∃ (C' d' : Addr), Value.ref C = .ref C' ∧ some d = some d' ∧ ∀ a', (L2.upd (del H2 a) d (.xd fs)) a' = none → Q (.ref a') (L2.upd (L2.upd (del H2 a) d (.xd fs)) a' (KeptX C' d' a'))) (fun _ _ _ => False) := by
  subst hb
  obtain ⟨ρ, F, R, p⟩ := h
  simp only [evE] at p
  refine ⟨ρ, F, R, Post.bnd' p fun ds ρ1 vs F1 H1 ed R1 s1 pd p => ?_⟩
  have l1 : ds.length = 1 := by
    simp only [evD] at ed
    cases hx : evE g cl m ρ with
    | none => rw [hx] at ed; cases ed
    | some q =>
      rw [hx] at ed
      cases q with
      | exc _ _ => cases ed
      | ok c' ρ' => cases ed; rfl
  have rr : RepsF M F1 ds vs := pd
  have lv := rr.len
  match vs, lv.symm.trans l1 with
  | [v], _ =>
    match ds, l1 with
    | [d0], _ =>
      simp only [hz, mkxD] at p
      refine mk1 (Q := fun cls dd H2 => ∃ (C' d' : Addr), cls = .ref C' ∧ dd = some d' ∧ ∀ a', H2 a' = none → Q (.ref a') (L2.upd H2 a' (KeptX C' d' a'))) T.ox T.no ⟨v, rfl, fun d nd => ⟨C, d, rfl, rfl, ?_⟩⟩
      exact made_fz hC hf rfl p R1 s1 rr nd
theorem se_mkx1 {e : Expr} {m : Ex} {c : Nat} {C : Addr} {x f : Str} {p pos : Pos} (hC : M.ca c = some C) (hf : M.xf c = [f]) (hz : g.x0 c = false) (T : XCls X.prog X.w X.K X.mg X.base x f C) (hr : Room 2 X.A) (hg : Gl X x) (hn : nst e = true) (he : PE X e (tE g cl M W m)) :
    PE X (.Call (.Name x p) [e] [] pos) (tE g cl M W (.mkx c (.cons false m .nil))) :=
  pe_imp (pe_made (pmk_1 T hr hg (sd_cons hn he sd_nil) (star_of hn))) fun σ H Q h => mk_arg hC hf hz T h rfl
theorem td_one {m : Ex} {σ : L2.St} {H : Hp} {Q : List V → Hp → Prop} (h : tD g cl M W (.cons false m .nil) σ H Q) : tF g cl M W m σ H fun v H1 => Q [v] H1 := by
  obtain ⟨ρ, F, R, p⟩ := h
  refine ⟨ρ, F, R, ?_⟩
  simp only [evD] at p
  have e1 : (bnd (evE g cl m ρ) fun c ρ => bnd (some (.ok [] ρ) : Option (Ev.R (List D))) fun ds ρ => some (.ok (c.d :: ds) ρ)) = bnd (bnd (evE g cl m ρ) fun c ρ => some (.ok c.d ρ)) fun d ρ => some (.ok [d] ρ) := by
    rw [bnd_assoc]; rfl
  rw [e1] at p
  refine Post.bnd p bk_PFs fun d ρ1 v F1 H1 _ R1 s1 pd p => ?_
  exact p.ok R1 (Stp.refl _ _ _) ⟨v, [], rfl, pd, rfl⟩
theorem se_mkxk {e : Expr} {m : Ex} {c : Nat} {C : Addr} {x f : Str} {p kp pos : Pos} (hC : M.ca c = some C) (hf : M.xf c = [f]) (hz : g.x0 c = false) (T : XCls X.prog X.w X.K X.mg X.base x f C) (hr : Room 2 X.A) (hg : Gl X x) (he : PE X e (tE g cl M W m)) :
    PE X (.Call (.Name x p) [] [⟨some f, e, kp⟩] pos) (tE g cl M W (.mkx c (.cons false m .nil))) :=
  pe_imp (pe_made (pmk_k T hr hg (sf_of he))) fun σ H Q h => td_one (mk_arg hC hf hz T h rfl)
theorem se_mkx0 {c : Nat} {C : Addr} {x f : Str} {p pos : Pos} (hC : M.ca c = some C) (hf : M.xf c = [f]) (hz : g.x0 c = true) (T : XCls0 X.prog X.w X.K X.mg X.base x f C) (hr : Room 2 X.A) (hg : Gl X x) :
    PE X (.Call (.Name x p) [] [] pos) (tE g cl M W (.mkx c .nil)) := by
  refine pe_imp (pe_made (pmk_0 T hr hg)) fun σ H Q ⟨ρ, F, R, p⟩ => ?_
  simp only [evE, evD, bnd, hz, mkxD] at p
  intro t nt d nd
  have hF := Ev.le.none R.le nt
  have hle := Ev.le.upd (o := .tup []) hF
  obtain ⟨R1, s1⟩ := R.new (F1 := L2.upd F t (.tup [])) (H1 := L2.upd H t (.tup [])) hle (Ev.le.upd nt) (Ev.le.upd2 R.le) fun b hb => upd_ne fun z => hb (z ▸ nt)
  have rt : RepF M (L2.upd F t (.tup [])) (.tup []) (.ref t) := ⟨t, [], rfl, .inl (.inl upd_same), rfl⟩
  exact ⟨C, d, rfl, rfl, made_fz hC hf rfl p R1 s1 ⟨.ref t, [], rfl, rt, rfl⟩ nd⟩
theorem ss_raise0 {c : Nat} {C : Addr} {x f : Str} {p pos pos' : Pos} (hc : X.calm = true) (tk : Takes X W) (hC : M.ca c = some C) (hf : M.xf c = [f]) (T : XCls0 X.prog X.w X.K X.mg X.base x f C) (hr : Room 2 X.A) (hg : Gl X x) :
    PS X (.Raise (some (.Call (.Name x p) [] [] pos')) none pos) (tS g cl M W n pr (.raise0 c)) := by
  refine ps_imp (ps_raise hc tk (pmk_0 T hr hg)) fun D σ H ⟨ρ, F, R, p⟩ => ?_
  simp only [evS] at p
  split at p
  · intro t nt d nd
    have hF := Ev.le.none R.le nt
    have hle := Ev.le.upd (o := .tup []) hF
    obtain ⟨R1, s1⟩ := R.new (F1 := L2.upd F t (.tup [])) (H1 := L2.upd H t (.tup [])) hle (Ev.le.upd nt) (Ev.le.upd2 R.le) fun b hb => upd_ne fun z => hb (z ▸ nt)
    have hF2 := Ev.le.none R1.le nd
    have hle2 := Ev.le.upd (o := .xd [(f, .ref t)]) hF2
    obtain ⟨R2, s2⟩ := R1.new (F1 := L2.upd (L2.upd F t (.tup [])) d (.xd [(f, .ref t)])) (H1 := L2.upd (L2.upd H t (.tup [])) d (.xd [(f, .ref t)])) hle2 (Ev.le.upd nd) (Ev.le.upd2 R1.le) fun b hb => upd_ne fun z => hb (z ▸ nd)
    have rt : RepF M (L2.upd F t (.tup [])) (.tup []) (.ref t) := ⟨t, [], rfl, .inl (.inl upd_same), rfl⟩
    exact p (.ref C) (some d) σ _ _ R2 (s1.trans s2) .refl ⟨c, [.tup []], C, d, [.ref t], rfl, hC, rfl, rfl, by rw [hf]; exact upd_same, by rw [hf]; rfl, RepsF.mono hle2 _ _ ⟨.ref t, [], rfl, rt, rfl⟩⟩
  · exact p.elim
end
end Ev
end

section
set_option maxHeartbeats 0
namespace Ev
open PySem PySem.Spec PyProof.Rows L2

/-- names of defs (with parameters) and of constants -/
structure Tbl where
  fn : Nat → Option (Str × List Str)
  gl : Nat → Option Str
  cl : Nat → Option Str := fun _ => none        -- exception classes
/-- a block: its scope; a comprehension's own one -/
structure Sx where
  sc : Scope
  cs : Option Scope
def fnB (c : Option Scope) (x : Str) : Bool := match c with | none => true | some s => s.names.lookup x == some .cell
def visB (s : Scope) (x : Str) : Bool := match s.names.lookup x with | some .local => true | some .cell => true | some .free => true | _ => false
def locB (s : Scope) (x : Str) : Bool := match s.names.lookup x with | some .local => true | some .cell => true | _ => false
def lclB (s : Scope) (x : Str) : Bool := match s.names.lookup x with | some .local => true | _ => false
def glB (s : Scope) (x : Str) : Bool := match s.names.lookup x with | some .globalImplicit => true | _ => false
def okN (x : Str) : Bool := !(x == ("__debug__" : Str)) && !(x == ("__classdict__" : Str))
def blNames : List Str := ["len", "abs", "int", "str", "bool", "max", "min", "sum", "all", "any", "sorted", "tuple", "list", "isinstance", "range", "enumerate", "zip", "set"]
def isIf : Expr → Bool | .IfExp .. => true | _ => false
def isSl : Expr → Bool | .Slice .. => true | _ => false
def isSet : Expr → Bool | .Set .. => true | _ => false
def isCall0 : Expr → Bool | .Call (.Name _ _) [] [] _ => true | _ => false
def isTupE : Expr → Bool | .Tuple .. => true | _ => false
def kEq : D → Const → Bool
  | .int i, .int j => decide (i = j)
  | .str x, .str y => decide (x = y)
  | .bl a, .bool b => a == b
  | .non, .none => true
  | _, _ => false
def lineB (a b : Pos) : Bool := a.endLine == b.line
def tyIs (t : Ty) (x : Str) : Bool := decide (x = tyN t) && (tyV t).isSome
section
variable (g : G) (T : Tbl) (N : List Str)
def nameB (c : Sx) (i : Nat) (x : Str) : Bool := decide (N[i]? = some x) && visB c.sc x && okN x
def varB (c : Sx) (i : Nat) : Expr → Bool
  | .Name x _ => nameB N c i x
  | _ => false
def tysB (c : Sx) : List Ty → List Expr → Bool
  | [], [] => true
  | t :: ts, .Name x _ :: es => tyIs t x && glB c.sc x && tysB c ts es
  | _, _ => false
mutual
def chkTg (c : Sx) : Tg → Expr → Bool
  | .name i, e => match e with
    | .Name x _ => decide (N[i]? = some x) && locB c.sc x && (fnB c.cs x || lclB c.sc x)
    | _ => false
  | .tup ts, e => match e with
    | .Tuple es _ _ => chkTgs c ts es
    | _ => false
def chkTgs (c : Sx) : List Tg → List Expr → Bool
  | [], es => match es with | [] => true | _ => false
  | t :: ts, es => match es with
    | e :: r => nst e && chkTg c t e && chkTgs c ts r
    | [] => false
end
mutual
def chkE (c : Sx) : Ex → Expr → Bool
  | .stk, _ => true
  | .var i, e => varB N c i e
  | .glo i, e => match e with
    | .Name x _ => decide (T.gl i = some x) && glB c.sc x && okN x
    | _ => false
  | .k d, e => match e with
    | .Constant k _ _ => kEq d k
    | _ => false
  | .tup es, e => match e with
    | .Tuple l _ _ => chkL c es l []
    | _ => false
  | .lst es, e => match e with
    | .List l _ => chkL c es l []
    | _ => false
  | .bin o a b, e => match e with
    | .BinOp x op y _ => decide (op = opOf o) && chkE c a x && chkE c b y
    | _ => false
  | .neg a, e => match e with
    | .UnaryOp .USub x _ => chkE c a x
    | _ => false
  | .not a, e => match e with
    | .UnaryOp .Not x _ => chkE c a x && !isIf x
    | _ => false
  | .and es, e => match e with
    | .BoolOp .And l _ => chkL c es l [] && !l.any isIf && !l.isEmpty
    | _ => false
  | .or es, e => match e with
    | .BoolOp .Or l _ => chkL c es l [] && !l.any isIf && !l.isEmpty
    | _ => false
  | .ife t a b, e => match e with
    | .IfExp x y z _ => chkE c t x && !isIf x && chkE c a y && chkE c b z
    | _ => false
  | .cmp o a b, e => match e with
    | .Compare x [op] [y] _ => decide (op = coOf o) && chkE c a x && chkE c b y && !isSet y
    | _ => false
  | .cmp2 o1 o2 a b d, e => match e with
    | .Compare x [p1, p2] [y, z] _ => decide (p1 = coOf o1) && decide (p2 = coOf o2) && chkE c a x && chkE c b y && chkE c d z && !isSet z
    | _ => false
  | .ix a i, e => match e with
    | .Subscript x y _ => chkE c a x && chkE c i y && !isSl y
    | _ => false
  | .sl a lp lo hp hi back, e => match e with
    | .Subscript x s _ => chkE c a x && (match s with
      | .Slice l h none _ => !back && (match l with | none => !lp | some l => lp && chkE c lo l) && (match h with | none => !hp | some h => hp && chkE c hi h)
      | .Slice none none (some (.UnaryOp .USub (.Constant (.int k) _ _) _)) _ => back && decide (k = 1) && !lp && !hp
      | _ => false)
    | _ => false
  | .call f es, e => match e with
    | .Call (.Name x _) args kws _ => match T.fn f with
      | some (y, ps) => decide (x = y) && (g.fn f).isSome && glB c.sc x && okN x && decide (lenEs es = ps.length) && decide (args.length + kws.length = ps.length) && (kws.all fun k => k.arg.isSome) && decide (kws.filterMap (·.arg) = ps.drop args.length) && chkL c es args kws
      | none => false
    | _ => false
  | .blt b es, e => match e with
    | .Call (.Name x _) args [] _ => decide (x = blN b) && (blV b).isSome && glB c.sc x && !args.isEmpty && chkL c es args []
    | _ => false
  | .bm m a es, e => match e with
    | .Call (.Attribute o name ap) [x] [] p => (match m with | .join => decide (name = "join") | .split => decide (name = "split") | _ => false) && lineB ap p && !isCall0 o && chkE c a o && chkL c es [x] []
    | _ => false
  | .isi a ts _, e => match e with
    | .Call (.Name x _) [y, z] [] _ => decide (x = "isinstance") && glB c.sc "isinstance" && nst y && chkE c a y && (match z with
      | .Tuple l _ _ => tysB c ts l && decide (ts.length ≤ 100)
      | .Name w _ => (match ts with | [t] => tyIs t w && glB c.sc w | _ => false)
      | _ => false)
    | _ => false
  | .fnv f, e => match e with
    | .Name x _ => (match T.fn f with
      | some (y, _) => decide (x = y) && (g.fn f).isSome && glB c.sc x && okN x
      | none => false)
    | _ => false
  | .callv a es, e => match e with
    | .Call fe args [] _ => !isAttr fe && !args.isEmpty && chkE c a fe && chkL c es args []
    | _ => false
  | .xat k a, e => match e with
    | .Attribute o f _ => decide (k = f) && !isCall0 o && chkE c a o
    | _ => false
  | .isx x a, e => match e with
    | .Call (.Name w _) [y, .Name z _] [] _ => decide (w = "isinstance") && glB c.sc "isinstance" && nst y && chkE c a y && decide (z = x) && glB c.sc x && (g.xi none x).isSome
    | _ => false
  | .mkx k .nil, e => match e with
    | .Call (.Name x _) [] [] _ => decide (T.cl k = some x) && (g.xf k).isSome && g.x0 k && glB c.sc x
    | _ => false
  | .mkx k (.cons b m .nil), e => match e with
    | .Call (.Name x _) [y] [] _ => decide (T.cl k = some x) && (g.xf k).isSome && !g.x0 k && glB c.sc x && !b && nst y && chkE c m y
    | .Call (.Name x _) [] [⟨nm, y, _⟩] _ => decide (T.cl k = some x) && (g.xf k).isSome && !g.x0 k && glB c.sc x && !b && decide (nm = g.xf k) && chkE c m y
    | _ => false
  | .mkx _ (.cons _ _ (.cons _ _ _)), _ => false
  | .pop i es, e => match e with
    | .Call (.Attribute o name ap) args [] p => decide (name = "pop") && lineB ap p && !isCall0 o && varB N c i o && decide (args.length < 2) && chkL c es args []
    | _ => false
  | .lc x own t it cs, e => match e with
    | .ListComp elt [⟨tg, iter, ifs, as⟩] scope _ =>
      let ownN := own.map fun i => ((N[i]?).getD ("" : Str), i)
      let c' : Sx := ⟨relS scope c.sc, some scope⟩
      decide (as = 0) && blkC N c.sc scope ownN && chkI c (isTupE tg) it iter && chkTg N c' t tg && decide (ifs.length < 2) && !ifs.any isIf && chkL c' cs ifs [] && chkE c' x elt
    | _ => false
def chkL (c : Sx) : Es → List Expr → List Keyword → Bool
  | .nil, es, kws => es.isEmpty && kws.isEmpty
  | .cons b m ms, es, kws => !b && (match es, kws with
    | e :: r, kws => nst e && chkE c m e && chkL c ms r kws
    | [], kw :: kws => chkE c m kw.value && chkL c ms [] kws
    | [], [] => false)
def chkI (c : Sx) (tup : Bool) : Iter → Expr → Bool
  | .of m, e => chkE c m e && !isSet e
  | .range es, e => match e with
    | .Call (.Name x _) args [] _ => decide (x = "range") && glB c.sc x && (decide (args.length = 1) || decide (args.length = 2)) && chkL c es args []
    | _ => false
  | .enum m k, e => match e with
    | .Call (.Name x _) args [] _ => tup && decide (x = "enumerate") && glB c.sc x && (match args with
      | [a] => decide (k = 0) && nst a && chkE c m a
      | [a, .Constant (.int j) _ _] => decide (j = k) && decide (-(2 ^ 63) ≤ k ∧ k < 2 ^ 63) && nst a && chkE c m a
      | _ => false)
    | _ => false
  | .zip es, e => match e with
    | .Call (.Name x _) args [] _ => tup && decide (x = "zip") && glB c.sc x && (decide (args.length = 2) || decide (args.length = 3)) && chkL c es args []
    | _ => false
end
end
end Ev
end

section
set_option maxHeartbeats 0
namespace Ev
open PySem PySem.Spec PyProof.Rows L2

/-- the surroundings of a piece of the text -/
structure Fine (g : G) (cl : Nat → List Cell → Option (R Cell)) (M : Mx) (T : Tbl) (N : List Str) (X : Cx) (W : L2.WX) (c : Sx) : Prop where
  nm : X.N = N
  nd : N.Nodup
  sc : X.env.scope = c.sc
  fnb : ∀ x, fnB c.cs x = true → X.fn x = true
  calm : X.calm = true
  K : M.K = X.K
  un : X.A.units + 80 < cLine
  tk : Takes X W
  fns : ∀ f fd x ps, g.fn f = some fd → T.fn f = some (x, ps) → FnAt X M cl f fd x ps
  bl : ∀ x ∈ blNames, X.mg x = none
  rm : Room 2 X.A
  fv : ∀ f fd, g.fn f = some fd → ∃ x ps b, T.fn f = some (x, ps) ∧ M.fa f = some b ∧ X.mg x = some (.ref b)
  xc : ∀ k f, g.xf k = some f → ∃ x C, T.cl k = some x ∧ M.ca k = some C ∧ M.xf k = [f] ∧ Eh.XEi X.prog X.w X.K X.mg X.base x f C (g.x0 k)
  xs : ∀ k' k b C' C, g.xs k' k = some b → M.ca k' = some C' → M.ca k = some C → PySem.W.exmOne X.K (.ref C') (.ref C) = some b
  xi : XiOk g M X.K X.mg
  glo : ∀ i d x, g.glo i = some d → T.gl i = some x → ∃ v u, X.mg x = some u ∧ RelV v u ∧ ∀ F, RepF M F d v
structure Okk (g : G) (cl : Nat → List Cell → Option (R Cell)) (M : Mx) (W : L2.WX) (X : Cx) (m : Ex) (e : Expr) : Prop where
  pe : PE X e (tE g cl M W m)
  po : PE X e (tO g cl M W m)
  pt : isIf e = false → PT X e (tT g cl M W m)
  pv : isIf e = false → PT X e (tV g cl M W m)
def AllOk (g : G) (cl : Nat → List Cell → Option (R Cell)) (M : Mx) (W : L2.WX) (X : Cx) : Es → List Expr → List Keyword → Prop
  | .nil, es, kws => es = [] ∧ kws = []
  | .cons b m ms, es, kws => b = false ∧ match es with
    | e :: r => nst e = true ∧ Okk g cl M W X m e ∧ AllOk g cl M W X ms r kws
    | [] => match kws with
      | kw :: kws => Okk g cl M W X m kw.value ∧ AllOk g cl M W X ms [] kws
      | [] => False
/-- the same, names by their slots too (arguments of a def) -/
def ArgOk (g : G) (cl : Nat → List Cell → Option (R Cell)) (M : Mx) (W : L2.WX) (X : Cx) : Es → List Expr → List Keyword → Prop
  | .nil, es, kws => es = [] ∧ kws = []
  | .cons b m ms, es, kws => match es with
    | e :: r => nst e = true ∧ (∀ fd j, PE X e (tA g cl M W fd j m)) ∧ ArgOk g cl M W X ms r kws
    | [] => match kws with
      | kw :: kws => (∀ fd j, PE X kw.value (tA g cl M W fd j m)) ∧ ArgOk g cl M W X ms [] kws
      | [] => False
section
variable {g : G} {cl : Nat → List Cell → Option (R Cell)} {M : Mx} {T : Tbl} {N : List Str} {X : Cx} {W : L2.WX} {c : Sx}
theorem Fine.vis (Gd : Fine g cl M T N X W c) {x : Str} (h : visB c.sc x = true) : Vis X.env.scope x := by
  rw [Gd.sc]
  unfold visB at h
  split at h
  · exact .inl (by assumption)
  · exact .inr (.inl (by assumption))
  · exact .inr (.inr (by assumption))
  · cases h
theorem Fine.loc (Gd : Fine g cl M T N X W c) {x : Str} (h : locB c.sc x = true) : Loc X.env.scope x := by
  rw [Gd.sc]
  unfold locB at h
  split at h
  · exact .inl (by assumption)
  · exact .inr (by assumption)
  · cases h
theorem Fine.lcl (Gd : Fine g cl M T N X W c) {x : Str} (h : lclB c.sc x = true) : X.env.scope.names.lookup x = some .local := by
  rw [Gd.sc]
  unfold lclB at h
  split at h
  · assumption
  · cases h
theorem Fine.gl (Gd : Fine g cl M T N X W c) {x : Str} (h : glB c.sc x = true) : Gl X x := by
  show X.env.scope.names.lookup x = _
  rw [Gd.sc]
  unfold glB at h
  split at h
  · assumption
  · cases h
theorem okN_d {x : Str} (h : okN x = true) : (x == ("__debug__" : Str)) = false ∧ (x == ("__classdict__" : Str)) = false := by
  simpa [okN] using h
theorem Fine.var (Gd : Fine g cl M T N X W c) {i : Nat} {e : Expr} (h : varB N c i e = true) : PE X e (tVar i) := by
  unfold varB at h
  split at h
  · unfold nameB at h
    simp only [Bool.and_eq_true, decide_eq_true_eq] at h
    obtain ⟨h1, h2⟩ := okN_d h.2
    exact pe_var (by rw [Gd.nm]; exact h.1.1) (Gd.vis h.1.2) h1 h2
  · cases h
def simpleT (e : Expr) : Prop := ∀ env whole, isTrue e env whole = (do let v ← whole; standAt e.pos; holding [v] (truthy v))
theorem okk_of (hK : M.K = X.K) {m : Ex} {e : Expr} (h : ∀ i, m ≠ .var i) (he : PE X e (tE g cl M W m)) (hs : isIf e = true ∨ simpleT e) : Okk g cl M W X m e where
  pe := he
  po := so_of h he
  pt := fun n => hs.elim (fun z => by rw [z] at n; cases n) fun s => st_any hK (so_of h he) (s _)
  pv := fun n => hs.elim (fun z => by rw [z] at n; cases n) fun s => sv_any hK he (s _)
theorem okk_t {m : Ex} {e : Expr} (h : ∀ i, m ≠ .var i) (he : PE X e (tE g cl M W m)) (ht : PT X e (tT g cl M W m)) : Okk g cl M W X m e where
  pe := he
  po := so_of h he
  pt := fun _ => ht
  pv := fun _ => sv_of h ht
theorem Okk.arg {fd : Fn} {j : Nat} {m : Ex} {e : Expr} (h : Okk g cl M W X m e) (hv : ∀ i, m = .var i → PE X e (tVar i)) : PE X e (tA g cl M W fd j m) := by
  by_cases hm : ∃ i, m = .var i
  · obtain ⟨i, rfl⟩ := hm
    exact sg_var (hv i rfl)
  · exact sg_ne (fun i z => hm ⟨i, z⟩) h.pe
theorem AllOk.d : ∀ {ms : Es} {es : List Expr}, AllOk g cl M W X ms es [] → PA X es (tD g cl M W ms)
  | .nil, es, h => by
    unfold AllOk at h
    obtain ⟨rfl, _⟩ := h
    exact sd_nil
  | .cons b m ms, es, h => by
    unfold AllOk at h
    obtain ⟨rfl, h⟩ := h
    cases es with
    | nil => exact h.elim
    | cons e r => exact sd_cons h.1 h.2.1.pe (AllOk.d h.2.2)
theorem AllOk.os : ∀ {ms : Es} {es : List Expr}, AllOk g cl M W X ms es [] → PA X es (tOs g cl M W ms)
  | .nil, es, h => by
    unfold AllOk at h
    obtain ⟨rfl, _⟩ := h
    exact sos_nil
  | .cons b m ms, es, h => by
    unfold AllOk at h
    obtain ⟨rfl, h⟩ := h
    cases es with
    | nil => exact h.elim
    | cons e r => exact sos_cons h.1 h.2.1.po (AllOk.os h.2.2)
theorem AllOk.cl' : ∀ {ms : Es} {es : List Expr}, AllOk g cl M W X ms es [] → PA X es (tCl g cl M W ms)
  | .nil, es, h => by
    unfold AllOk at h
    obtain ⟨rfl, _⟩ := h
    exact scl_nil
  | .cons b m ms, es, h => by
    unfold AllOk at h
    obtain ⟨rfl, h⟩ := h
    cases es with
    | nil => exact h.elim
    | cons e r => exact scl_cons h.1 h.2.1.pe (AllOk.cl' h.2.2)
theorem AllOk.an (hK : M.K = X.K) {pos : Pos} : ∀ {ms : Es} {es : List Expr}, AllOk g cl M W X ms es [] → es ≠ [] → (PE X (.BoolOp .And es pos) (tAs g cl M W ms) ∧ PE X (.BoolOp .Or es pos) (tOr' g cl M W ms)) ∧
    (es.any isIf = false → PW X (.BoolOp .And es pos) (tAsT g cl M W ms) ∧ PW X (.BoolOp .Or es pos) (tOrT' g cl M W ms))
  | .nil, es, h, hne => by
    unfold AllOk at h
    exact absurd h.1 hne
  | .cons b m ms, es, h, _ => by
    unfold AllOk at h
    obtain ⟨rfl, h⟩ := h
    cases es with
    | nil => exact h.elim
    | cons e r =>
      obtain ⟨hn, ho, hr⟩ := h
      cases r with
      | nil =>
        have : ms = .nil := by
          cases ms with
          | nil => rfl
          | cons b' m' ms' => unfold AllOk at hr; exact hr.2.elim
        subst this
        exact ⟨⟨(sa_one ho.pe).1, (sa_one ho.pe).2⟩, fun hi => ⟨(sw_one (ho.pv (by simpa using hi))).1, (sw_one (ho.pv (by simpa using hi))).2⟩⟩
      | cons e2 r2 =>
        cases ms with
        | nil => unfold AllOk at hr; exact absurd hr.1 (by simp)
        | cons b' m' ms' =>
          obtain ⟨h1, h2⟩ := AllOk.an hK (pos := pos) hr (by simp)
          refine ⟨⟨sa_and hK ho.pe h1.1, sa_or hK ho.pe h1.2⟩, fun hi => ?_⟩
          rw [List.any_cons, Bool.or_eq_false_iff] at hi
          obtain ⟨w1, w2⟩ := h2 hi.2
          exact ⟨sw_and (ho.pv hi.1) w1, sw_or (ho.pv hi.1) w2⟩
theorem ArgOk.pos {fd : Fn} : ∀ {ms : Es} {es : List Expr} {j : Nat}, ArgOk g cl M W X ms es [] → PA X es (tAs' g cl M W fd j ms)
  | .nil, es, j, h => by
    unfold ArgOk at h
    obtain ⟨rfl, _⟩ := h
    exact sgs'_nil
  | .cons b m ms, es, j, h => by
    unfold ArgOk at h
    cases es with
    | nil => exact h.elim
    | cons e r => exact sgs'_cons h.1 (h.2.1 fd j) (ArgOk.pos h.2.2)
theorem ArgOk.kw {fd : Fn} : ∀ {ms : Es} {kws : List Keyword} {j : Nat}, ArgOk g cl M W X ms [] kws → PK X kws (tAs' g cl M W fd j ms)
  | .nil, kws, j, h => by
    unfold ArgOk at h
    obtain ⟨_, rfl⟩ := h
    exact sgk_nil
  | .cons b m ms, kws, j, h => by
    unfold ArgOk at h
    cases kws with
    | nil => exact h.elim
    | cons kw kws =>
      obtain ⟨nm, val, kp⟩ := kw
      exact sgk_cons (h.1 fd j) (ArgOk.kw h.2)
theorem ArgOk.first {fd : Fn} : ∀ {ms : Es} {es : List Expr} {kws : List Keyword} {j : Nat}, ArgOk g cl M W X ms es kws → PA X es (tPos g cl M W fd j es.length ms) ∧ ArgOk g cl M W X (dropEs es.length ms) [] kws
  | ms, [], kws, j, h => ⟨sgp_nil, h⟩
  | .nil, e :: r, kws, j, h => by
    unfold ArgOk at h
    exact absurd h.1 (by simp)
  | .cons b m ms, e :: r, kws, j, h => by
    unfold ArgOk at h
    obtain ⟨h1, h2⟩ := ArgOk.first (fd := fd) (j := j + 1) h.2.2
    exact ⟨sgp_cons h.1 (h.2.1 fd j) h1, h2⟩
end
end Ev
end

section
set_option maxHeartbeats 0
namespace Ev
open PySem PySem.Spec PyProof.Rows L2

theorem plain_star : ∀ {es : List Expr} {env : Env} {pos : Pos}, es.all nst = true → (backTo pos (starEach es env)).any (·.1) = false ∧ (backTo pos (starEach es env)).all (fun x => !x.1) = true
  | [], _, _, _ => ⟨rfl, rfl⟩
  | e :: es, env, pos, h => by
    simp only [List.all_cons, Bool.and_eq_true] at h
    obtain ⟨h1, h2⟩ := plain_star (es := es) (env := env) (pos := pos) h.2
    rw [star_of h.1]
    exact ⟨by show (false || (backTo pos (starEach es env)).any (·.1)) = false; rw [h1]; rfl, by show (!false && (backTo pos (starEach es env)).all (fun x => !x.1)) = true; rw [h2]; rfl⟩
theorem base_of {o : Expr} (h : isCall0 o = false) (n : Str) (env : Env) : attributeBase o n env (eval o env) = eval o env := by
  unfold attributeBase
  split
  · cases h
  · rfl
theorem plain_ix {e : Expr} (h : isSl e = false) : PlainIxT e := by
  cases e <;> first | (intro o i; rfl) | cases h
theorem marks_of {e : Expr} (h : isSet e = false) (op : CmpOp) : behindInMarks op e = false := by
  cases e <;> first | rfl | cases h
theorem fold_of {e : Expr} (h : isSet e = false) (env : Env) (x : Value) : foldedSetIterable e env x = pure x := by
  cases e <;> first | rfl | cases h
section
variable {g : G} {cl : Nat → List Cell → Option (R Cell)} {M : Mx} {T : Tbl} {N : List Str}
theorem AllOk.nst {W : L2.WX} {X : Cx} : ∀ {ms : Es} {es : List Expr} {kws : List Keyword}, AllOk g cl M W X ms es kws → es.all Ev.nst = true
  | .nil, es, kws, h => by
    unfold AllOk at h
    rw [h.1]; rfl
  | .cons b m ms, [], kws, h => rfl
  | .cons b m ms, e :: r, kws, h => by
    unfold AllOk at h
    rw [List.all_cons, h.2.1, AllOk.nst h.2.2.2]; rfl
theorem Fine.bln {X : Cx} {W : L2.WX} {c : Sx} (Gd : Fine g cl M T N X W c) (b : Bl) : X.mg (blN b) = none := by
  refine Gd.bl _ ?_
  cases b <;> simp [blN, blNames]
theorem Fine.tyn {X : Cx} {W : L2.WX} {c : Sx} (Gd : Fine g cl M T N X W c) {t : Ty} {x : Str} (h : tyIs t x = true) (hg : glB c.sc x = true) : x = tyN t ∧ ∃ n, TyName X t n := by
  unfold tyIs at h
  simp only [Bool.and_eq_true, decide_eq_true_eq] at h
  obtain ⟨rfl, h2⟩ := h
  obtain ⟨n, hn⟩ := Option.isSome_iff_exists.mp h2
  refine ⟨rfl, n, hn, Gd.gl hg, Gd.bl _ ?_⟩
  cases t <;> first | cases hn; done | (simp [tyN, blNames]; done) | (cases hn)
theorem Fine.tys {X : Cx} {W : L2.WX} {c : Sx} (Gd : Fine g cl M T N X W c) : ∀ {ts : List Ty} {es : List Expr}, tysB c ts es = true → ∃ ns, Paired (TyName X) ts ns ∧ Paired (fun t e => ∃ pos, e = Expr.Name (tyN t) pos) ts es
  | [], [], _ => ⟨[], .nil, .nil⟩
  | [], _ :: _, h => by simp [tysB] at h
  | t :: ts, [], h => by simp [tysB] at h
  | t :: ts, e :: es, h => by
    cases e <;> simp only [tysB, Bool.and_eq_true, Bool.false_eq_true] at h
    obtain ⟨⟨h1, h2⟩, h3⟩ := h
    obtain ⟨rfl, n, hn⟩ := Gd.tyn h1 h2
    obtain ⟨ns, p1, p2⟩ := Fine.tys Gd h3
    exact ⟨n :: ns, .cons hn p1, .cons ⟨_, rfl⟩ p2⟩
theorem kEq_ok {X : Cx} {d : D} {k : Const} {j : Nat} {pos : Pos} (h : kEq d k = true) : ∃ v, PE X (.Constant k j pos) (tC v) ∧ ∀ F, RepF M F d v := by
  cases d <;> cases k <;> simp [kEq] at h
  · exact ⟨_, pe_non, fun F => rfl⟩
  · subst h; exact ⟨_, pe_bl, fun F => rfl⟩
  · subst h; exact ⟨_, pe_int, fun F => rfl⟩
  · subst h; exact ⟨_, pe_str, fun F => rfl⟩
theorem blk_fine {X : Cx} {W : L2.WX} {c : Sx} (Gd : Fine g cl M T N X W c) (scope : Scope) (s : Shared) (H : Hp) (C : Addr) (cc : List (Str × Addr)) (fp : List Addr) :
    Fine g cl M T N (X.blk s H scope (compEnvC scope cc C X.env) fp) noW ⟨relS scope c.sc, some scope⟩ where
  nm := Gd.nm
  nd := Gd.nd
  sc := by rw [← Gd.sc]; rfl
  fnb := fun x h => h
  calm := Gd.calm
  K := Gd.K
  un := Gd.un
  tk := fun _ _ ⟨_, _, _, _, _, _, _, _, _, _, _, _, _, _, _, _, z⟩ => z.elim
  fns := fun f fd x ps h1 h2 => ⟨(Gd.fns f fd x ps h1 h2).ex⟩
  bl := Gd.bl
  rm := Gd.rm
  fv := Gd.fv
  xc := Gd.xc
  xs := Gd.xs
  xi := Gd.xi
  glo := Gd.glo
theorem chkTg_ok : ∀ (t : Tg) {c : Sx} {e : Expr}, chkTg N c t e = true → ∀ {X : Cx} {W : L2.WX}, Fine g cl M T N X W c → PG X e (gT M t) ∧ nst e = true := by
  intro t
  refine Tg.rec (motive_1 := fun t => ∀ {c : Sx} {e : Expr}, chkTg N c t e = true → ∀ {X : Cx} {W : L2.WX}, Fine g cl M T N X W c → PG X e (gT M t) ∧ nst e = true)
    (motive_2 := fun ts => ∀ {c : Sx} {es : List Expr}, chkTgs N c ts es = true → ∀ {X : Cx} {W : L2.WX}, Fine g cl M T N X W c → PGs X es (gTs M ts) ∧ (assignEach es X.env).length = ts.length ∧ (assignEach es X.env).findIdx? (·.1) = none) ?_ ?_ ?_ ?_ t
  · intro i c e h X W Gd
    simp only [chkTg] at h
    split at h
    · simp only [Bool.and_eq_true, Bool.or_eq_true, decide_eq_true_eq] at h
      obtain ⟨⟨h1, h2⟩, h3⟩ := h
      exact ⟨sg_name (pg_name (by rw [Gd.nm]; exact Gd.nd) (by rw [Gd.nm]; exact h1) (Gd.loc h2) (h3.imp (Gd.fnb _) fun z => Gd.lcl z)), rfl⟩
    · cases h
  · intro ts ih c e h X W Gd
    simp only [chkTg] at h
    split at h
    · obtain ⟨h1, h2, h3⟩ := ih h Gd
      exact ⟨sg_tup Gd.K Gd.calm h1 h2 h3, rfl⟩
    · cases h
  · intro c es h X W Gd
    simp only [chkTgs] at h
    split at h
    · exact ⟨sgs_nil, rfl, rfl⟩
    · cases h
  · intro t ts ih1 ih2 c es h X W Gd
    simp only [chkTgs] at h
    split at h
    · rename_i e r
      simp only [Bool.and_eq_true] at h
      obtain ⟨⟨h0, h1⟩, h2⟩ := h
      obtain ⟨p1, _⟩ := ih1 h1 Gd
      obtain ⟨p2, l2, f2⟩ := ih2 h2 Gd
      have e1 : assignEach (e :: r) X.env = (false, assign e X.env) :: assignEach r X.env := by
        cases e <;> first | rfl | cases h0
      refine ⟨sgs_cons p1 p2 (by rw [e1]; rfl), by rw [e1, List.length_cons, List.length_cons, l2], ?_⟩
      rw [e1, List.findIdx?_cons]
      simp only [Bool.false_eq_true, if_false, f2]
      rfl
    · cases h
end
end Ev
end

section
set_option maxHeartbeats 0
namespace Ev
open PySem PySem.Spec PyProof.Rows L2

section
variable {g : G} {cl : Nat → List Cell → Option (R Cell)} {M : Mx} {T : Tbl} {N : List Str}
theorem se_stk {X : Cx} {W : L2.WX} {e : Expr} : Okk g cl M W X .stk e where
  pe := ⟨fun pins s σ H Q I ⟨ρ, F, R, p⟩ => by simp only [evE] at p; exact p.elim⟩
  po := ⟨fun pins s σ H Q I ⟨ρ, F, R, p⟩ => by simp only [opd, evE, bnd] at p; exact p.elim⟩
  pt := fun _ => ⟨fun pins s σ H Q I ⟨ρ, F, R, p⟩ => by simp only [tst, opd, evE, bnd] at p; exact p.elim⟩
  pv := fun _ => ⟨fun pins s σ H Q I ⟨ρ, F, R, p⟩ => by simp only [evE, bnd] at p; exact p.elim⟩
theorem lenEs_args : ∀ {ms : Es} {es : List Expr} {kws : List Keyword} {X : Cx} {W : L2.WX}, ArgOk g cl M W X ms es kws → lenEs ms = es.length + kws.length
  | .nil, es, kws, X, W, h => by
    unfold ArgOk at h
    obtain ⟨rfl, rfl⟩ := h
    rfl
  | .cons b m ms, [], [], X, W, h => by unfold ArgOk at h; exact h.elim
  | .cons b m ms, [], kw :: kws, X, W, h => by
    unfold ArgOk at h
    have := lenEs_args h.2
    simp only [lenEs, List.length_cons, List.length_nil] at this ⊢
    omega
  | .cons b m ms, e :: r, kws, X, W, h => by
    unfold ArgOk at h
    have := lenEs_args h.2.2
    simp only [lenEs, List.length_cons] at this ⊢
    omega
theorem one_ok {X : Cx} {W : L2.WX} {ms : Es} {e : Expr} (h : AllOk g cl M W X ms [e] []) : ∃ m, ms = .cons false m .nil ∧ nst e = true ∧ Okk g cl M W X m e := by
  cases ms with
  | nil => unfold AllOk at h; exact absurd h.1 (by simp)
  | cons b m ms =>
    unfold AllOk at h
    obtain ⟨rfl, h1, h2, h3⟩ := h
    cases ms with
    | nil => exact ⟨m, rfl, h1, h2⟩
    | cons b' m' ms' => unfold AllOk at h3; exact h3.2.elim
theorem two_ok {X : Cx} {W : L2.WX} {ms : Es} {e e2 : Expr} (h : AllOk g cl M W X ms [e, e2] []) : ∃ m m2, ms = .cons false m (.cons false m2 .nil) ∧ nst e = true ∧ nst e2 = true ∧ Okk g cl M W X m e ∧ Okk g cl M W X m2 e2 := by
  cases ms with
  | nil => unfold AllOk at h; exact absurd h.1 (by simp)
  | cons b m ms =>
    unfold AllOk at h
    obtain ⟨rfl, h1, h2, h3⟩ := h
    obtain ⟨m2, rfl, h4, h5⟩ := one_ok h3
    exact ⟨m, m2, rfl, h1, h4, h2, h5⟩
theorem three_ok {X : Cx} {W : L2.WX} {ms : Es} {e e2 e3 : Expr} (h : AllOk g cl M W X ms [e, e2, e3] []) : ∃ m m2 m3, ms = .cons false m (.cons false m2 (.cons false m3 .nil)) ∧ nst e = true ∧ nst e2 = true ∧ nst e3 = true ∧ Okk g cl M W X m e ∧ Okk g cl M W X m2 e2 ∧ Okk g cl M W X m3 e3 := by
  cases ms with
  | nil => unfold AllOk at h; exact absurd h.1 (by simp)
  | cons b m ms =>
    unfold AllOk at h
    obtain ⟨rfl, h1, h2, h3⟩ := h
    obtain ⟨m2, m3, rfl, h4, h5, h6, h7⟩ := two_ok h3
    exact ⟨m, m2, m3, rfl, h1, h4, h5, h2, h6, h7⟩
def P1 (g : G) (cl : Nat → List Cell → Option (R Cell)) (M : Mx) (T : Tbl) (N : List Str) (m : Ex) : Prop :=
  ∀ {c : Sx} {e : Expr}, chkE g T N c m e = true → ∀ {X : Cx} {W : L2.WX}, Fine g cl M T N X W c → Okk g cl M W X m e ∧ ∀ fd j, PE X e (tA g cl M W fd j m)
def P2 (g : G) (cl : Nat → List Cell → Option (R Cell)) (M : Mx) (T : Tbl) (N : List Str) (ms : Es) : Prop :=
  ∀ {c : Sx} {es : List Expr} {kws : List Keyword}, chkL g T N c ms es kws = true → ∀ {X : Cx} {W : L2.WX}, Fine g cl M T N X W c → AllOk g cl M W X ms es kws ∧ ArgOk g cl M W X ms es kws
def P3 (g : G) (cl : Nat → List Cell → Option (R Cell)) (M : Mx) (T : Tbl) (N : List Str) (it : Iter) : Prop :=
  ∀ {c : Sx} {tg e : Expr}, chkI g T N c (isTupE tg) it e = true → ∀ {X : Cx} {W : L2.WX}, Fine g cl M T N X W c → PI X tg e (tI g cl M W it) ∧ ∀ x, foldedSetIterable e X.env x = pure x
theorem fin1 {m : Ex} (h : ∀ i, m ≠ .var i) {X : Cx} {W : L2.WX} {e : Expr} (o : Okk g cl M W X m e) : Okk g cl M W X m e ∧ ∀ fd j, PE X e (tA g cl M W fd j m) :=
  ⟨o, fun fd j => sg_ne h o.pe⟩
theorem p_var (i : Nat) : P1 g cl M T N (.var i) := by
  intro c e h X W Gd
  simp only [chkE] at h
  have hv := Gd.var h
  have hs : simpleT e := by
    unfold varB at h
    split at h
    · intro env w; rfl
    · cases h
  exact ⟨⟨se_var hv, so_var hv, fun _ => st_any Gd.K (so_var hv) (hs _), fun _ => sv_any Gd.K (se_var hv) (hs _)⟩, fun fd j => sg_var hv⟩
theorem p_glo (i : Nat) : P1 g cl M T N (.glo i) := by
  intro c e h X W Gd
  simp only [chkE] at h
  split at h
  · rename_i x pos
    simp only [Bool.and_eq_true, decide_eq_true_eq] at h
    obtain ⟨⟨h1, h2⟩, h3⟩ := h
    refine fin1 (by intro j z; cases z) (okk_of Gd.K (by intro j z; cases z) ?_ (.inr fun _ _ => rfl))
    cases hg : g.glo i with
    | none => exact ⟨fun pins s σ H Q I ⟨ρ, F, R, p⟩ => by simp only [evE, hg] at p; exact p.elim⟩
    | some d =>
      obtain ⟨v, u, hm, r, hr⟩ := Gd.glo i d x hg h1
      exact se_glo (pe_glob (Gd.gl h2) hm r (okN_d h3).1) fun d' hd F => by rw [hg] at hd; cases hd; exact hr F
  · cases h
theorem p_k (d : D) : P1 g cl M T N (.k d) := by
  intro c e h X W Gd
  simp only [chkE] at h
  split at h
  · obtain ⟨v, h1, h2⟩ := kEq_ok h
    exact fin1 (by intro j z; cases z) (okk_of Gd.K (by intro j z; cases z) (se_k h1 h2) (.inr fun _ _ => rfl))
  · cases h
theorem p_tup (es : Es) (ih : P2 g cl M T N es) : P1 g cl M T N (.tup es) := by
  intro c e h X W Gd
  simp only [chkE] at h
  split at h
  · exact fin1 (by intro j z; cases z) (okk_of Gd.K (by intro j z; cases z) (se_tup (ih h Gd).1.d) (.inr fun _ _ => rfl))
  · cases h
theorem p_lst (es : Es) (ih : P2 g cl M T N es) : P1 g cl M T N (.lst es) := by
  intro c e h X W Gd
  simp only [chkE] at h
  split at h
  · exact fin1 (by intro j z; cases z) (okk_of Gd.K (by intro j z; cases z) (se_lst (ih h Gd).1.d) (.inr fun _ _ => rfl))
  · cases h
theorem p_bin (o : BO) (a b : Ex) (ha : P1 g cl M T N a) (hb : P1 g cl M T N b) : P1 g cl M T N (.bin o a b) := by
  intro c e h X W Gd
  simp only [chkE] at h
  split at h
  · simp only [Bool.and_eq_true, decide_eq_true_eq] at h
    obtain ⟨⟨rfl, h1⟩, h2⟩ := h
    exact fin1 (by intro j z; cases z) (okk_of Gd.K (by intro j z; cases z) (se_bin Gd.K (ha h1 Gd).1.po (hb h2 Gd).1.po) (.inr fun _ _ => rfl))
  · cases h
theorem p_neg (a : Ex) (ha : P1 g cl M T N a) : P1 g cl M T N (.neg a) := by
  intro c e h X W Gd
  simp only [chkE] at h
  split at h
  · exact fin1 (by intro j z; cases z) (okk_of Gd.K (by intro j z; cases z) (se_neg (ha h Gd).1.pe) (.inr fun _ _ => rfl))
  · cases h
theorem p_not (a : Ex) (ha : P1 g cl M T N a) : P1 g cl M T N (.not a) := by
  intro c e h X W Gd
  simp only [chkE] at h
  split at h
  · simp only [Bool.and_eq_true, Bool.not_eq_true'] at h
    exact fin1 (by intro j z; cases z) (okk_t (by intro j z; cases z) (se_not Gd.K (ha h.1 Gd).1.po) (st_not Gd.K ((ha h.1 Gd).1.pt h.2)))
  · cases h
theorem p_and (es : Es) (ih : P2 g cl M T N es) : P1 g cl M T N (.and es) := by
  intro c e h X W Gd
  simp only [chkE] at h
  split at h
  · simp only [Bool.and_eq_true, Bool.not_eq_true'] at h
    obtain ⟨⟨h1, h2⟩, h3⟩ := h
    obtain ⟨p, q⟩ := (ih h1 Gd).1.an Gd.K (by intro z; rw [z] at h3; cases h3)
    exact fin1 (by intro j z; cases z) (okk_t (by intro j z; cases z) (se_and p.1) (st_and (q h2).1))
  · cases h
theorem p_or (es : Es) (ih : P2 g cl M T N es) : P1 g cl M T N (.or es) := by
  intro c e h X W Gd
  simp only [chkE] at h
  split at h
  · simp only [Bool.and_eq_true, Bool.not_eq_true'] at h
    obtain ⟨⟨h1, h2⟩, h3⟩ := h
    obtain ⟨p, q⟩ := (ih h1 Gd).1.an Gd.K (by intro z; rw [z] at h3; cases h3)
    exact fin1 (by intro j z; cases z) (okk_t (by intro j z; cases z) (se_or p.2) (st_or (q h2).2))
  · cases h
theorem p_ife (t a b : Ex) (ht : P1 g cl M T N t) (ha : P1 g cl M T N a) (hb : P1 g cl M T N b) : P1 g cl M T N (.ife t a b) := by
  intro c e h X W Gd
  simp only [chkE] at h
  split at h
  · simp only [Bool.and_eq_true, Bool.not_eq_true'] at h
    obtain ⟨⟨⟨h1, h2⟩, h3⟩, h4⟩ := h
    exact fin1 (by intro j z; cases z) (okk_of Gd.K (by intro j z; cases z) (se_ife ((ht h1 Gd).1.pt h2) (ha h3 Gd).1.pe (hb h4 Gd).1.pe) (.inl rfl))
  · cases h
theorem Fine.un65 {X : Cx} {W : L2.WX} {c : Sx} (Gd : Fine g cl M T N X W c) : X.A.units + 65 < cLine := Nat.lt_of_le_of_lt (Nat.add_le_add_left (by decide) _) Gd.un
theorem p_cmp (o : CO) (a b : Ex) (ha : P1 g cl M T N a) (hb : P1 g cl M T N b) : P1 g cl M T N (.cmp o a b) := by
  intro c e h X W Gd
  simp only [chkE] at h
  split at h
  · simp only [Bool.and_eq_true, decide_eq_true_eq, Bool.not_eq_true'] at h
    obtain ⟨⟨⟨rfl, h1⟩, h2⟩, h3⟩ := h
    exact fin1 (by intro j z; cases z) (okk_t (by intro j z; cases z) (se_cmp Gd.K Gd.un65 (ha h1 Gd).1.po (hb h2 Gd).1.po (marks_of h3 _)) (st_cmp Gd.K Gd.un65 (ha h1 Gd).1.po (hb h2 Gd).1.po (marks_of h3 _)))
  · cases h
theorem p_cmp2 (o1 o2 : CO) (a b d : Ex) (ha : P1 g cl M T N a) (hb : P1 g cl M T N b) (hd : P1 g cl M T N d) : P1 g cl M T N (.cmp2 o1 o2 a b d) := by
  intro c e h X W Gd
  simp only [chkE] at h
  split at h
  · simp only [Bool.and_eq_true, decide_eq_true_eq, Bool.not_eq_true'] at h
    obtain ⟨⟨⟨⟨⟨rfl, rfl⟩, h1⟩, h2⟩, h3⟩, h4⟩ := h
    exact fin1 (by intro j z; cases z) (okk_t (by intro j z; cases z) (se_cmp2 Gd.K Gd.un65 (ha h1 Gd).1.pe (hb h2 Gd).1.pe (hd h3 Gd).1.pe (by simp only [lastMarks]; exact marks_of h4 _)) (st_cmp2 Gd.K Gd.un65 (ha h1 Gd).1.pe (hb h2 Gd).1.pe (hd h3 Gd).1.pe (by simp only [lastMarks]; exact marks_of h4 _)))
  · cases h
theorem p_ix (a i : Ex) (ha : P1 g cl M T N a) (hi : P1 g cl M T N i) : P1 g cl M T N (.ix a i) := by
  intro c e h X W Gd
  simp only [chkE] at h
  split at h
  · simp only [Bool.and_eq_true, Bool.not_eq_true'] at h
    obtain ⟨⟨h1, h2⟩, h3⟩ := h
    exact fin1 (by intro j z; cases z) (okk_of Gd.K (by intro j z; cases z) (se_ix Gd.K (ha h1 Gd).1.po (hi h2 Gd).1.po (plain_ix h3)) (.inr fun _ _ => rfl))
  · cases h
theorem p_fnv (f : Nat) : P1 g cl M T N (.fnv f) := by
  intro c e h X W Gd
  simp only [chkE] at h
  split at h
  · split at h
    · rename_i y ps hT
      simp only [Bool.and_eq_true, decide_eq_true_eq] at h
      obtain ⟨⟨⟨rfl, h2⟩, h3⟩, h4⟩ := h
      obtain ⟨fd, hfd⟩ := Option.isSome_iff_exists.mp h2
      obtain ⟨x', ps', b, hT', hb, hm⟩ := Gd.fv f fd hfd
      rw [hT] at hT'; cases hT'
      exact fin1 (by intro j z; cases z) (okk_of Gd.K (by intro j z; cases z) (se_fnv (Gd.gl h3) hm hb (okN_d h4).1) (.inr fun _ _ => rfl))
    · cases h
  · cases h
theorem p_callv (a : Ex) (es : Es) (ha : P1 g cl M T N a) (ih : P2 g cl M T N es) : P1 g cl M T N (.callv a es) := by
  intro c e h X W Gd
  simp only [chkE] at h
  split at h
  · rename_i fe args pos
    simp only [Bool.and_eq_true, Bool.not_eq_true', List.isEmpty_eq_false_iff] at h
    obtain ⟨⟨⟨h1, h2⟩, h3⟩, h4⟩ := h
    obtain ⟨al, ar⟩ := ih h4 Gd
    obtain ⟨e0, es0, rfl⟩ := List.exists_cons_of_ne_nil h2
    have hns := AllOk.nst al
    rw [List.all_cons, Bool.and_eq_true] at hns
    refine fin1 (by intro j z; cases z) (okk_of Gd.K (by intro j z; cases z) (se_callv h1 Gd.tk (fun f fd hfd => ?_) hns.1 (plain_star (es := es0) hns.2).1 (ha h3 Gd).1.pe fun fd => ArgOk.pos ar) (.inr fun _ _ => ?_))
    · obtain ⟨x, ps, b, hT, hb, hm⟩ := Gd.fv f fd hfd
      exact ⟨x, ps, Gd.fns f fd x ps hfd hT, fun b' hb' => by rw [hb] at hb'; cases hb'; exact hm⟩
    · rfl
  · cases h
theorem p_xat (f : Str) (a : Ex) (ha : P1 g cl M T N a) : P1 g cl M T N (.xat f a) := by
  intro c e h X W Gd
  simp only [chkE] at h
  split at h
  · simp only [Bool.and_eq_true, Bool.not_eq_true', decide_eq_true_eq] at h
    obtain ⟨⟨rfl, h3⟩, h4⟩ := h
    exact fin1 (by intro j z; cases z) (okk_of Gd.K (by intro j z; cases z) (se_xat (fun k hk => let ⟨x, C, _, hC, hf, T'⟩ := Gd.xc k _ hk; ⟨C, hC, hf, T'.xf, T'.no⟩) (ha h4 Gd).1.po (base_of h3 _ _)) (.inr fun _ _ => rfl))
  · cases h
theorem p_isx (x : Str) (a : Ex) (ha : P1 g cl M T N a) : P1 g cl M T N (.isx x a) := by
  intro c e h X W Gd
  simp only [chkE] at h
  split at h
  · rename_i w p y z p2 pos
    simp only [Bool.and_eq_true, decide_eq_true_eq] at h
    obtain ⟨⟨⟨⟨⟨⟨rfl, h1⟩, h2⟩, h3⟩, rfl⟩, h5⟩, h6⟩ := h
    obtain ⟨b, hb⟩ := Option.isSome_iff_exists.mp h6
    obtain ⟨u, hu, _⟩ := Gd.xi none z b hb
    exact fin1 (by intro j z; cases z) (okk_of Gd.K (by intro j z; cases z) (se_isx Gd.K Gd.xi (Gd.gl h1) (Gd.bl _ (by simp [blNames])) h2 (Gd.gl h5) hu rfl (ha h3 Gd).1.po) (.inr fun _ _ => rfl))
  · cases h
theorem p_mkx0 (k : Nat) : P1 g cl M T N (.mkx k .nil) := by
  intro c e h X W Gd
  simp only [chkE] at h
  split at h
  · simp only [Bool.and_eq_true, decide_eq_true_eq] at h
    obtain ⟨⟨⟨h1, h2⟩, h3⟩, h4⟩ := h
    obtain ⟨f, hf⟩ := Option.isSome_iff_exists.mp h2
    obtain ⟨x', C, hx', hC, hxf, T'⟩ := Gd.xc k f hf
    rw [h1] at hx'; cases hx'
    rw [h3] at T'
    exact fin1 (by intro j z; cases z) (okk_of Gd.K (by intro j z; cases z) (se_mkx0 hC hxf h3 T' Gd.rm (Gd.gl h4)) (.inr fun _ _ => rfl))
  · cases h
theorem p_mkx1 (k : Nat) (b : Bool) (m : Ex) (hm : P1 g cl M T N m) : P1 g cl M T N (.mkx k (.cons b m .nil)) := by
  intro c e h X W Gd
  simp only [chkE] at h
  split at h
  · simp only [Bool.and_eq_true, decide_eq_true_eq, Bool.not_eq_true'] at h
    obtain ⟨⟨⟨⟨⟨⟨h1, h2⟩, h3⟩, h4⟩, rfl⟩, h6⟩, h7⟩ := h
    obtain ⟨f, hf⟩ := Option.isSome_iff_exists.mp h2
    obtain ⟨x', C, hx', hC, hxf, T'⟩ := Gd.xc k f hf
    rw [h1] at hx'; cases hx'
    rw [h3] at T'
    exact fin1 (by intro j z; cases z) (okk_of Gd.K (by intro j z; cases z) (se_mkx1 hC hxf h3 T' Gd.rm (Gd.gl h4) h6 (hm h7 Gd).1.pe) (.inr fun _ _ => rfl))
  · simp only [Bool.and_eq_true, decide_eq_true_eq, Bool.not_eq_true'] at h
    obtain ⟨⟨⟨⟨⟨⟨h1, h2⟩, h3⟩, h4⟩, rfl⟩, h6⟩, h7⟩ := h
    obtain ⟨f, hf⟩ := Option.isSome_iff_exists.mp h2
    obtain ⟨x', C, hx', hC, hxf, T'⟩ := Gd.xc k f hf
    rw [h1] at hx'; cases hx'
    rw [h3] at T'
    rw [hf] at h6
    subst h6
    exact fin1 (by intro j z; cases z) (okk_of Gd.K (by intro j z; cases z) (se_mkxk hC hxf h3 T' Gd.rm (Gd.gl h4) (hm h7 Gd).1.pe) (.inr fun _ _ => rfl))
  · cases h
theorem part_ok {c : Sx} {lp : Bool} {lo : Ex} (hlo : P1 g cl M T N lo) {l : Option Expr} (h : (match l with | none => !lp | some l => lp && chkE g T N c lo l) = true) {X : Cx} {W : L2.WX} (Gd : Fine g cl M T N X W c) : L2.PO X l (tPt g cl M W lp lo) := by
  cases l with
  | none =>
    simp only [Bool.not_eq_true'] at h
    subst h
    exact sp_none
  | some l =>
    simp only [Bool.and_eq_true] at h
    obtain ⟨rfl, h⟩ := h
    exact sp_some (hlo h Gd).1.pe
theorem p_sl (a : Ex) (lp : Bool) (lo : Ex) (hp : Bool) (hi : Ex) (back : Bool) (ha : P1 g cl M T N a) (hlo : P1 g cl M T N lo) (hhi : P1 g cl M T N hi) : P1 g cl M T N (.sl a lp lo hp hi back) := by
  intro c e h X W Gd
  simp only [chkE] at h
  split at h
  · rename_i x s pos
    rw [Bool.and_eq_true] at h
    obtain ⟨h0, h⟩ := h
    split at h
    · simp only [Bool.and_eq_true, Bool.not_eq_true'] at h
      obtain ⟨⟨rfl, h1⟩, h2⟩ := h
      exact fin1 (by intro j z; cases z) (okk_of Gd.K (by intro j z; cases z) (se_sl Gd.K (ha h0 Gd).1.po (part_ok hlo h1 Gd) (part_ok hhi h2 Gd)) (.inr fun _ _ => rfl))
    · simp only [Bool.and_eq_true, Bool.not_eq_true', decide_eq_true_eq] at h
      obtain ⟨⟨⟨rfl, rfl⟩, rfl⟩, rfl⟩ := h
      exact fin1 (by intro j z; cases z) (okk_of Gd.K (by intro j z; cases z) (se_rev Gd.K (ha h0 Gd).1.po) (.inr fun _ _ => rfl))
    · cases h
  · cases h
theorem p_call (f : Nat) (es : Es) (ih : P2 g cl M T N es) : P1 g cl M T N (.call f es) := by
  intro c e h X W Gd
  simp only [chkE] at h
  split at h
  · rename_i x p args kws pos
    split at h
    · rename_i y ps hT
      simp only [Bool.and_eq_true, decide_eq_true_eq] at h
      obtain ⟨⟨⟨⟨⟨⟨⟨⟨rfl, h1⟩, h2⟩, h3⟩, h4⟩, h5⟩, h6⟩, h7⟩, h8⟩ := h
      obtain ⟨fd, hf⟩ := Option.isSome_iff_exists.mp h1
      obtain ⟨al, ar⟩ := ih h8 Gd
      have Fa := Gd.fns f fd x ps hf hT
      have hst := AllOk.nst al
      refine fin1 (by intro j z; cases z) (okk_of Gd.K (by intro j z; cases z) ?_ (.inr fun _ _ => rfl))
      cases kws with
      | nil =>
        cases args with
        | nil =>
          cases es with
          | nil => exact se_call0 hf Fa Gd.tk (Gd.gl h2) (okN_d h3).1
          | cons b m ms => unfold ArgOk at ar; exact ar.elim
        | cons a r =>
          simp only [List.all_cons, Bool.and_eq_true] at hst
          exact se_call hf Fa Gd.tk (Gd.gl h2) hst.1 (plain_star hst.2).1 (okN_d h3).1 ar.pos
      | cons kw kws =>
        obtain ⟨a1, a2⟩ := ArgOk.first (fd := fd) (j := 0) ar
        exact se_callK hf Fa Gd.tk (Gd.gl h2) (plain_star hst).1 (okN_d h3).1 h6 h7 h4 (by omega) (fun e r z => by rw [z] at hst; simp only [List.all_cons, Bool.and_eq_true] at hst; exact hst.1) a1 a2.kw
    · cases h
  · cases h
theorem p_blt (b : Bl) (es : Es) (ih : P2 g cl M T N es) : P1 g cl M T N (.blt b es) := by
  intro c e h X W Gd
  simp only [chkE] at h
  split at h
  · rename_i x p args pos
    simp only [Bool.and_eq_true, decide_eq_true_eq, Bool.not_eq_true'] at h
    obtain ⟨⟨⟨⟨rfl, h1⟩, h2⟩, h3⟩, h4⟩ := h
    obtain ⟨u, hu⟩ := Option.isSome_iff_exists.mp h1
    obtain ⟨al, _⟩ := ih h4 Gd
    have hst := AllOk.nst al
    cases args with
    | nil => cases h3
    | cons a r =>
      simp only [List.all_cons, Bool.and_eq_true] at hst
      exact fin1 (by intro j z; cases z) (okk_of Gd.K (by intro j z; cases z) (se_blt Gd.calm Gd.K Gd.un hu (Gd.gl h2) (Gd.bln b) hst.1 (plain_star hst.2).1 al.os) (.inr fun _ _ => rfl))
  · cases h
theorem p_bm (m : Bm) (a : Ex) (es : Es) (ha : P1 g cl M T N a) (ih : P2 g cl M T N es) : P1 g cl M T N (.bm m a es) := by
  intro c e h X W Gd
  simp only [chkE] at h
  split at h
  · rename_i o name ap x p
    simp only [Bool.and_eq_true, Bool.not_eq_true'] at h
    obtain ⟨⟨⟨⟨h1, h2⟩, h3⟩, h4⟩, h5⟩ := h
    obtain ⟨m1, rfl, hn, ok⟩ := one_ok (ih h5 Gd).1
    cases m <;> simp only [decide_eq_true_eq, Bool.false_eq_true] at h1
    · subst h1
      exact fin1 (by intro j z; cases z) (okk_of Gd.K (by intro j z; cases z) (se_join Gd.K (ha h4 Gd).1.po ok.po hn (base_of h3 _ _) h2) (.inr fun _ _ => rfl))
    · subst h1
      exact fin1 (by intro j z; cases z) (okk_of Gd.K (by intro j z; cases z) (se_split Gd.K (ha h4 Gd).1.po ok.po hn (base_of h3 _ _) h2) (.inr fun _ _ => rfl))
  · cases h
theorem p_isi (a : Ex) (ts : List Ty) (one : Bool) (ha : P1 g cl M T N a) : P1 g cl M T N (.isi a ts one) := by
  intro c e h X W Gd
  simp only [chkE] at h
  split at h
  · rename_i x p y z pos
    simp only [Bool.and_eq_true, decide_eq_true_eq] at h
    obtain ⟨⟨⟨⟨rfl, h1⟩, h2⟩, h3⟩, h4⟩ := h
    have hm : X.mg "isinstance" = none := Gd.bl _ (by simp [blNames])
    split at h4
    · simp only [Bool.and_eq_true, decide_eq_true_eq] at h4
      obtain ⟨ns, p1, p2⟩ := Gd.tys h4.1
      exact fin1 (by intro j z; cases z) (okk_of Gd.K (by intro j z; cases z) (se_isiT Gd.K (Gd.gl h1) hm h2 p1 p2 (Nat.le_trans h4.2 (by decide)) rfl (ha h3 Gd).1.po) (.inr fun _ _ => rfl))
    · split at h4
      · simp only [Bool.and_eq_true] at h4
        obtain ⟨rfl, n, hn⟩ := Gd.tyn h4.1 h4.2
        exact fin1 (by intro j z; cases z) (okk_of Gd.K (by intro j z; cases z) (se_isi1 Gd.K (Gd.gl h1) hm h2 hn rfl (ha h3 Gd).1.po) (.inr fun _ _ => rfl))
      · cases h4
    · cases h4
  · cases h
theorem p_pop (i : Nat) (es : Es) (ih : P2 g cl M T N es) : P1 g cl M T N (.pop i es) := by
  intro c e h X W Gd
  simp only [chkE] at h
  split at h
  · rename_i o name ap args p
    simp only [Bool.and_eq_true, decide_eq_true_eq, Bool.not_eq_true'] at h
    obtain ⟨⟨⟨⟨⟨rfl, h2⟩, h3⟩, h4⟩, h5⟩, h6⟩ := h
    obtain ⟨al, _⟩ := ih h6 Gd
    refine fin1 (by intro j z; cases z) (okk_of Gd.K (by intro j z; cases z) ?_ (.inr fun _ _ => rfl))
    cases args with
    | nil =>
      cases es with
      | nil => exact se_pop0 (Gd.var h4) (base_of h3 _ _) h2
      | cons b m ms => unfold AllOk at al; exact al.2.elim
    | cons k r =>
      cases r with
      | nil =>
        obtain ⟨m1, rfl, hn, ok⟩ := one_ok al
        refine se_pop1 (Gd.var h4) ok.pe hn (base_of h3 _ _) ?_ h2
        rw [(plain_star (es := [k]) (by simp [hn])).2]
        rfl
      | cons k2 r => simp at h5; omega
  · cases h
theorem p_lc (x : Ex) (own : List Nat) (t : Tg) (it : Iter) (cs : Es) (hx : P1 g cl M T N x) (hi : P3 g cl M T N it) (hc : P2 g cl M T N cs) : P1 g cl M T N (.lc x own t it cs) := by
  intro c e h X W Gd
  simp only [chkE] at h
  split at h
  · rename_i elt tg iter ifs as scope pos
    simp only [Bool.and_eq_true, decide_eq_true_eq, Bool.not_eq_true'] at h
    obtain ⟨⟨⟨⟨⟨⟨⟨rfl, h1⟩, h2⟩, h3⟩, h4⟩, h5⟩, h6⟩, h7⟩ := h
    obtain ⟨pi, hs⟩ := hi h2 Gd
    have hown : (own.map fun i => ((N[i]?).getD ("" : Str), i)).map (·.2) = own := by
      rw [List.map_map]
      exact List.map_id _
    refine fin1 (by intro j z; cases z) (okk_of Gd.K (by intro j z; cases z) ?_ (.inr fun _ _ => rfl))
    rw [← hown]
    have ok : BlkOk X.N X.env.scope scope (own.map fun i => ((N[i]?).getD ("" : Str), i)) := by
      rw [Gd.nm, Gd.sc]
      exact blkOk_by h1
    refine se_lc Gd.calm (by rw [Gd.nm]; exact Gd.nd) pi ok (fun s H C cc fp => (chkTg_ok t h3 (blk_fine Gd scope s H C cc fp)).1) (fun s H C cc fp => ?_) (fun s H C cc fp => (hx h7 (blk_fine Gd scope s H C cc fp)).1.pe) hs
    have al := (hc h6 (blk_fine Gd scope s H C cc fp)).1
    cases ifs with
    | nil =>
      cases cs with
      | nil => exact scs_nil
      | cons b m ms => unfold AllOk at al; exact al.2.elim
    | cons f r =>
      cases r with
      | nil =>
        obtain ⟨m1, rfl, hn, ok⟩ := one_ok al
        exact scs_one (ok.pv (by simpa using h5))
      | cons k2 r => simp at h4; omega
  · cases h
theorem p2_nil : P2 g cl M T N .nil := by
  intro c es kws h X W Gd
  simp only [chkL, Bool.and_eq_true, List.isEmpty_iff] at h
  unfold AllOk ArgOk
  exact ⟨h, h⟩
theorem p2_cons (b : Bool) (m : Ex) (ms : Es) (hm : P1 g cl M T N m) (ih : P2 g cl M T N ms) : P2 g cl M T N (.cons b m ms) := by
  intro c es kws h X W Gd
  simp only [chkL, Bool.and_eq_true, Bool.not_eq_true'] at h
  obtain ⟨rfl, h⟩ := h
  unfold AllOk ArgOk
  cases es with
  | cons e r =>
    simp only [Bool.and_eq_true] at h
    obtain ⟨⟨h1, h2⟩, h3⟩ := h
    obtain ⟨o, a⟩ := hm h2 Gd
    obtain ⟨os, as⟩ := ih h3 Gd
    exact ⟨⟨rfl, h1, o, os⟩, h1, a, as⟩
  | nil =>
    cases kws with
    | nil => cases h
    | cons kw kws =>
      simp only [Bool.and_eq_true] at h
      obtain ⟨o, a⟩ := hm h.1 Gd
      obtain ⟨os, as⟩ := ih h.2 Gd
      exact ⟨⟨rfl, o, os⟩, a, as⟩
theorem p3_of (m : Ex) (hm : P1 g cl M T N m) : P3 g cl M T N (.of m) := by
  intro c tg e h X W Gd
  simp only [chkI, Bool.and_eq_true, Bool.not_eq_true'] at h
  exact ⟨si_of Gd.K (hm h.1 Gd).1.po, fold_of h.2 _⟩
theorem p3_range (es : Es) (ih : P2 g cl M T N es) : P3 g cl M T N (.range es) := by
  intro c tg e h X W Gd
  simp only [chkI] at h
  split at h
  · rename_i x p args pos
    simp only [Bool.and_eq_true, Bool.or_eq_true, decide_eq_true_eq] at h
    obtain ⟨⟨⟨rfl, h1⟩, h2⟩, h3⟩ := h
    have hm : X.mg "range" = none := Gd.bl _ (by simp [blNames])
    refine ⟨?_, fun x => rfl⟩
    have al := (ih h3 Gd).1
    match args, h2 with
    | [a], _ =>
      obtain ⟨m1, rfl, hn, ok⟩ := one_ok al
      exact si_rng1 (Gd.gl h1) hm hn ok.pe
    | [a, b], _ =>
      obtain ⟨m1, m2, rfl, hn, hn2, ok, ok2⟩ := two_ok al
      exact si_rng2 (Gd.gl h1) hm hn hn2 ok.pe ok2.pe
  · cases h
theorem tup_of {tg : Expr} (h : isTupE tg = true) : ∃ es k p, tg = .Tuple es k p := by
  cases tg <;> first | exact ⟨_, _, _, rfl⟩ | cases h
theorem p3_enum (m : Ex) (k : Int) (hm' : P1 g cl M T N m) : P3 g cl M T N (.enum m k) := by
  intro c tg e h X W Gd
  simp only [chkI] at h
  split at h
  · rename_i x p args pos
    simp only [Bool.and_eq_true, decide_eq_true_eq] at h
    obtain ⟨⟨⟨h0, rfl⟩, h1⟩, h2⟩ := h
    obtain ⟨es, kk, tp, rfl⟩ := tup_of h0
    have hm : X.mg "enumerate" = none := Gd.bl _ (by simp [blNames])
    refine ⟨?_, fun x => rfl⟩
    split at h2
    · simp only [Bool.and_eq_true, decide_eq_true_eq] at h2
      obtain ⟨⟨rfl, h3⟩, h4⟩ := h2
      exact si_en1 Gd.K (Gd.gl h1) hm h3 (hm' h4 Gd).1.po
    · simp only [Bool.and_eq_true, decide_eq_true_eq] at h2
      obtain ⟨⟨⟨rfl, h3⟩, h4⟩, h5⟩ := h2
      exact si_en2 Gd.K (Gd.gl h1) hm h4 rfl h3.1 h3.2 (hm' h5 Gd).1.po pe_int
    · cases h2
  · cases h
theorem p3_zip (es : Es) (ih : P2 g cl M T N es) : P3 g cl M T N (.zip es) := by
  intro c tg e h X W Gd
  simp only [chkI] at h
  split at h
  · rename_i x p args pos
    simp only [Bool.and_eq_true, Bool.or_eq_true, decide_eq_true_eq] at h
    obtain ⟨⟨⟨⟨h0, rfl⟩, h1⟩, h2⟩, h3⟩ := h
    obtain ⟨el, kk, tp, rfl⟩ := tup_of h0
    have hm : X.mg "zip" = none := Gd.bl _ (by simp [blNames])
    refine ⟨?_, fun x => rfl⟩
    have al := (ih h3 Gd).1
    match args, h2 with
    | [a, b], _ =>
      obtain ⟨m1, m2, rfl, hn, hn2, ok, ok2⟩ := two_ok al
      exact si_zip2 Gd.K (Gd.gl h1) hm hn hn2 ok.po ok2.po
    | [a, b, d], _ =>
      obtain ⟨m1, m2, m3, rfl, hn, hn2, hn3, ok, ok2, ok3⟩ := three_ok al
      exact si_zip3 Gd.K (Gd.gl h1) hm hn hn2 hn3 ok.po ok2.po ok3.po
  · cases h
mutual
theorem chkE_ok : ∀ m : Ex, P1 g cl M T N m
  | .var i => p_var i
  | .glo x => p_glo x
  | .k d => p_k d
  | .tup es => p_tup es (chkL_ok es)
  | .lst es => p_lst es (chkL_ok es)
  | .bin o a b => p_bin o a b (chkE_ok a) (chkE_ok b)
  | .neg a => p_neg a (chkE_ok a)
  | .not a => p_not a (chkE_ok a)
  | .and es => p_and es (chkL_ok es)
  | .or es => p_or es (chkL_ok es)
  | .ife t a b => p_ife t a b (chkE_ok t) (chkE_ok a) (chkE_ok b)
  | .cmp o a b => p_cmp o a b (chkE_ok a) (chkE_ok b)
  | .cmp2 o1 o2 a b d => p_cmp2 o1 o2 a b d (chkE_ok a) (chkE_ok b) (chkE_ok d)
  | .ix a i => p_ix a i (chkE_ok a) (chkE_ok i)
  | .sl a lp lo hp hi back => p_sl a lp lo hp hi back (chkE_ok a) (chkE_ok lo) (chkE_ok hi)
  | .call f es => p_call f es (chkL_ok es)
  | .blt b es => p_blt b es (chkL_ok es)
  | .bm m a es => p_bm m a es (chkE_ok a) (chkL_ok es)
  | .isi a ts one => p_isi a ts one (chkE_ok a)
  | .pop i es => p_pop i es (chkL_ok es)
  | .lc x own t it cs => p_lc x own t it cs (chkE_ok x) (chkI_ok it) (chkL_ok cs)
  | .xat k a => p_xat k a (chkE_ok a)
  | .fnv f => p_fnv f
  | .callv a es => p_callv a es (chkE_ok a) (chkL_ok es)
  | .isx x a => p_isx x a (chkE_ok a)
  | .mkx k .nil => p_mkx0 k
  | .mkx k (.cons b m .nil) => p_mkx1 k b m (chkE_ok m)
  | .mkx k (.cons _ _ (.cons _ _ _)) => fun h => by simp [chkE] at h
  | .stk => fun _ X W Gd => fin1 (by intro j z; cases z) se_stk
theorem chkL_ok : ∀ ms : Es, P2 g cl M T N ms
  | .nil => p2_nil
  | .cons b m ms => p2_cons b m ms (chkE_ok m) (chkL_ok ms)
theorem chkI_ok : ∀ it : Iter, P3 g cl M T N it
  | .of m => p3_of m (chkE_ok m)
  | .range es => p3_range es (chkL_ok es)
  | .enum m k => p3_enum m k (chkE_ok m)
  | .zip es => p3_zip es (chkL_ok es)
end
end
end Ev
end

section
set_option maxHeartbeats 0
namespace Ev
open PySem PySem.Spec PyProof.Rows L2

def isStar : Expr → Bool | .Starred .. => true | _ => false
def isComp : Expr → Bool | .ListComp .. => true | .SetComp .. => true | .DictComp .. => true | _ => false
def parNames (sc : Scope) (ts : List Expr) : List Str := ts.filterMap fun
  | .Name id pos => if sc.names.lookup id == some .local && pos.line == (ts.head?.map (·.pos.line)).getD 0 then some id else none
  | _ => none
/-- which names a parallel assignment stores from the right -/
def swapN (sc : Scope) (ts vs : List Expr) : Option (Option (List Str)) :=
  if (!(ts.length == 2 || ts.length == 3) || vs.length != ts.length) = true then some none
  else if vs.any isStar = true then some none
  else if ((parNames sc ts).length != ts.length || (parNames sc ts).eraseDups.length != (parNames sc ts).length) = true then some none
  else if vs.all (foldedForSure 8) = true then some none
  else if vs.all (constantsAlone 8) = true then none
  else some (some (parNames sc ts))
theorem swapN_ok {sc : Scope} {ts vs : List Expr} {r : Option (List Str)} {env : Env} {k k2 : Nat} {p p2 : Pos} (h : swapN sc ts vs = some r) (hs : env.scope = sc) (hk : sc.kind = .function) : swappedStores [.Tuple ts k p] (.Tuple vs k2 p2) env = pure r := by
  have hb : env.blockKind = .function := by unfold Env.blockKind; rw [hs, hk]; rfl
  unfold swapN at h
  unfold swappedStores
  simp only [hb, bne_self_eq_false, Bool.or_false]
  have hkd : ∀ id, env.kindOf id = sc.names.lookup id := fun id => by rw [← hs]; rfl
  simp only [hkd]
  split at h
  · rename_i h1
    cases h
    exact if_pos h1
  · rename_i h1
    refine (if_neg h1).trans ?_
    split at h
    · rename_i h2
      cases h
      exact if_pos h2
    · rename_i h2
      refine (if_neg h2).trans ?_
      split at h
      · rename_i h3
        cases h
        exact if_pos h3
      · rename_i h3
        refine (if_neg h3).trans ?_
        split at h
        · rename_i h4
          cases h
          exact if_pos h4
        · rename_i h4
          refine (if_neg h4).trans ?_
          split at h
          · cases h
          · rename_i h5
            cases h
            exact if_neg h5
theorem swapT_none {t v : Expr} {env : Env} (h : isTupE v = false) : swappedStores [t] v env = pure none := by
  cases v <;> first
    | (cases h; done)
    | rfl
    | (cases t <;> rfl)
def isLstE : Expr → Bool | .List .. => true | _ => false
theorem swapT_other {t v : Expr} {env : Env} (h : isTupE t = false) (h2 : isLstE t = false) : swappedStores [t] v env = pure none := by
  cases t <;> first
    | (cases h; done)
    | (cases h2; done)
    | rfl
    | (cases v <;> rfl)
/-- is the value of a comprehension handed to the name at once? -/
def swB (sc : Scope) (v : Expr) (x : Str) (px : Pos) : Bool := match v with
  | .ListComp _ _ s vp => lclB sc x && px.line == vp.line && !(s.names.any fun (n, k) => n == x && (k == .local || k == .cell))
  | _ => false
theorem swB_ok {sc : Scope} {v : Expr} {x : Str} {px : Pos} {env : Env} {line : Nat} (hc : isComp v = false ∨ ∃ a b c d, v = .ListComp a b c d) (hs : env.scope = sc) (hk : sc.kind = .function) : swapsWith v (some (.Name x px)) line env = pure (swB sc v x px) := by
  have hb : env.blockKind = .function := by unfold Env.blockKind; rw [hs, hk]; rfl
  rcases hc with hc | ⟨a, b, s, vp, rfl⟩
  · cases v <;> first | rfl | cases hc
  · have hk1 : (env.kindOf x == some .local) = lclB sc x := by
      unfold lclB
      rw [show env.kindOf x = sc.names.lookup x by rw [← hs]; rfl]
      split
      · rename_i e; rw [e]; rfl
      · rename_i hne
        cases e : sc.names.lookup x with
        | none => rfl
        | some k => cases k <;> first | rfl | exact absurd e hne
    show pure _ = pure _
    rw [hb, hk1]
    rfl
theorem swS_pure {v : Expr} {t : Expr} {line : Nat} {env : Env} (ht : ∀ x p, t ≠ .Name x p) : swapsWithSole [t] v line env = pure false := by
  show swapsWith v (some t) line env = _
  cases v <;> first
    | rfl
    | (cases t <;> first | rfl | exact absurd rfl (ht _ _))
theorem swE_pure {v : Expr} {line : Nat} {env : Env} (h : isComp v = false) : swapsWith v none line env = pure false := by
  cases v <;> first | rfl | cases h
end Ev
end

section
set_option maxHeartbeats 0
namespace Ev
open PySem PySem.Spec PyProof.Rows L2
section
variable (g : G) (T : Tbl) (N : List Str)
def tgB (c : Sx) (i : Nat) (x : Str) : Bool := decide (N[i]? = some x) && locB c.sc x
def parB (c : Sx) : List Nat → List Expr → Bool
  | [], [] => true
  | i :: is, .Name x _ :: es => decide (N[i]? = some x) && lclB c.sc x && parB c is es
  | _, _ => false
mutual
def chkS (c : Sx) : St → Stmt → Bool
  | .stk, _ => true
  | .set t e, st => match st with
    | .Assign [tg] v _ => chkE g T N c e v && (match t with
      | .name i => (match tg with
        | .Name x px => tgB N c i x && (!isComp v || (match e with | .lc .. => true | _ => false) && (match v with | .ListComp .. => true | _ => false))
        | _ => false)
      | .tup _ => isTupE tg && chkTg N c t tg && (!isTupE v || (match tg, v with
        | .Tuple ts _ _, .Tuple vs _ _ => (match swapN c.sc ts vs with | some none => true | _ => false)
        | _, _ => false)))
    | _ => false
  | .par is es, st => match st with
    | .Assign [.Tuple ts _ _] (.Tuple vs _ _) _ => parB N c is ts && decide is.Nodup && (decide (is.length = 2) || decide (is.length = 3)) && chkL g T N c es vs [] && (match swapN c.sc ts vs with
      | some (some ns) => decide (ns = is.map fun i => (N[i]?).getD ("" : Str))
      | _ => false)
    | _ => false
  | .setix i k e, st => match st with
    | .Assign [.Subscript o ke _] v _ => varB N c i o && chkE g T N c k ke && !isSl ke && chkE g T N c e v && nst v
    | _ => false
  | .app i e, st => match st with
    | .Expr (.Call (.Attribute o name ap) [x] [] cp) _ => decide (name = "append") && lineB ap cp && !isCall0 o && varB N c i o && nst x && chkE g T N c e x
    | _ => false
  | .ext _ _, _ => false
  | .ex e, st => match st with
    | .Expr v _ => chkE g T N c e v && !isComp v
    | _ => false
  | .ret m, st => match st with
    | .Return (some e) _ => (match m with | .var i => varB N c i e | m => chkE g T N c m e)
    | .Return none _ => (match m with | .k .non => true | _ => false)
    | _ => false
  | .ife t a b, st => match st with
    | .If te ab bb _ => chkE g T N c t te && !isIf te && chkSs c a ab && chkSs c b bb
    | _ => false
  | .for_ tg it b, st => match st with
    | .For t i body [] _ => chkI g T N c (isTupE t) it i && chkTg N c tg t && chkSs c b body
    | _ => false
  | .whl t b, st => match st with
    | .While te body [] _ => chkE g T N c t te && !isIf te && chkSs c b body
    | _ => false
  | .pass, st => match st with
    | .Pass _ => true
    | .Expr (.Constant (.str _) _ _) _ => true
    | _ => false
  | .raise k e, st => match st with
    | .Raise (some (.Call (.Name x _) [a] [] _)) none _ => decide (T.cl k = some x) && (g.xf k).isSome && glB c.sc x && nst a && chkE g T N c e a && !g.x0 k
    | _ => false
  | .raise0 k, st => match st with
    | .Raise (some (.Call (.Name x _) [] [] _)) none _ => decide (T.cl k = some x) && (g.xf k).isSome && g.x0 k && glB c.sc x
    | _ => false
  | .try_ b k i j, st => match st with
    | .Try body [.ExceptHandler (some (.Name x _)) (some nm) [.Assign [.Name m _] (.Name n2 _) _] _] [] [] _ => chkSs c b body && decide (T.cl k = some x) && (g.xf k).isSome && glB c.sc x && decide (N[i]? = some nm) && lclB c.sc nm && decide (N[j]? = some m) && lclB c.sc m && decide (n2 = nm) && okN nm
    | _ => false
  | .brk, st => match st with | .Break _ => true | _ => false
  | .cont, st => match st with | .Continue _ => true | _ => false
def chkSs (c : Sx) : Ss → List Stmt → Bool
  | .nil, l => l.isEmpty
  | .cons s r, l => match l with
    | st :: rest => chkS c s st && chkSs c r rest
    | [] => false
end
end
/-- around statements -/
structure FineS (g : G) (cl : Nat → List Cell → Option (R Cell)) (M : Mx) (T : Tbl) (N : List Str) (X : Cx) (W : L2.WX) (c : Sx) : Prop where
  f : Fine g cl M T N X W c
  kd : c.sc.kind = .function
  fn : ∀ x, X.fn x = true
  ps : PassesOwn (model X.prog X.w) X.A X.env X.xe
  hex : X.ex = []
  stk : X.stack = X.env :: X.outer
  frm : X.env.frame = some X.env.locals
section
variable {g : G} {cl : Nat → List Cell → Option (R Cell)} {M : Mx} {T : Tbl} {N : List Str} {n : Nat} {pr : List Nat}
/-- y = [..], the list handed to the name at once -/
theorem lc_at {x : Ex} {own : List Nat} {t : Tg} {it : Iter} {cs : Es} {c : Sx} {v : Expr} (h : chkE g T N c (.lc x own t it cs) v = true) {X : Cx} {W : L2.WX} (Gd : Fine g cl M T N X W c) {i : Nat} {y : Str} {py spos : Pos} (hy : N[i]? = some y) (hl : lclB c.sc y = true)
    (hsw : swapsWith v (some (.Name y py)) spos.line X.env = pure true) : PS X (.Assign [.Name y py] v spos) (tAsg (tE g cl M W (.lc x own t it cs)) (gName i)) := by
  simp only [chkE] at h
  split at h
  · rename_i elt tg iter ifs as scope pos
    simp only [Bool.and_eq_true, decide_eq_true_eq, Bool.not_eq_true'] at h
    obtain ⟨⟨⟨⟨⟨⟨⟨rfl, h1⟩, h2⟩, h3⟩, h4⟩, h5⟩, h6⟩, h7⟩ := h
    obtain ⟨pi, hs⟩ := chkI_ok it h2 Gd
    have hown : (own.map fun i => ((N[i]?).getD ("" : Str), i)).map (·.2) = own := by
      rw [List.map_map]
      exact List.map_id _
    have ok : BlkOk X.N X.env.scope scope (own.map fun i => ((N[i]?).getD ("" : Str), i)) := by
      rw [Gd.nm, Gd.sc]
      exact blkOk_by h1
    have key := ps_setLc (te := tF g cl M noW x) (tt := tCs g cl M cs) (g := gT M t) Gd.calm (by rw [Gd.nm]; exact Gd.nd) (by rw [Gd.nm]; exact hy) (Gd.lcl hl) hsw pi ok (fun s H C cc fp => (chkTg_ok t h3 (blk_fine Gd scope s H C cc fp)).1) (fun s H C cc fp => by
      have al := (chkL_ok cs h6 (blk_fine Gd scope s H C cc fp)).1
      cases ifs with
      | nil =>
        cases cs with
        | nil => exact scs_nil
        | cons b m ms => unfold AllOk at al; exact al.2.elim
      | cons f r =>
        cases r with
        | nil =>
          obtain ⟨m1, rfl, hn, ok⟩ := one_ok al
          exact scs_one (ok.pv (by simpa using h5))
        | cons k2 r => simp at h4; omega) (fun s H C cc fp => sf_of (chkE_ok x h7 (blk_fine Gd scope s H C cc fp)).1.pe) hs
    rw [hown] at key
    exact ps_imp key fun D σ H ⟨ρ, F, R, p⟩ => lc_pure R p
  · cases h
theorem PF_set {X : Cx} {W : L2.WX} {m : Ex} {t : Tg} {tg v : Expr} {pos : Pos} (hv : PE X v (tE g cl M W m)) (ht : PG X tg (gT M t)) (h1 : swapsWithSole [tg] v pos.line X.env = pure false) (h2 : swappedStores [tg] v X.env = pure none) (h3 : nst tg = true) : PS X (.Assign [tg] v pos) (tAsg (tF g cl M W m) (gT M t)) :=
  ps_asg (sf_of hv) ht h1 h2 (by cases tg <;> first | rfl | cases h3)
def Q1 (g : G) (cl : Nat → List Cell → Option (R Cell)) (M : Mx) (T : Tbl) (N : List Str) (n : Nat) (pr : List Nat) (s : St) : Prop :=
  ∀ {c : Sx} {st : Stmt}, chkS g T N c s st = true → ∀ {X : Cx} {W : L2.WX}, FineS g cl M T N X W c → PS X st (tS g cl M W n pr s)
def Q2 (g : G) (cl : Nat → List Cell → Option (R Cell)) (M : Mx) (T : Tbl) (N : List Str) (n : Nat) (pr : List Nat) (s : Ss) : Prop :=
  ∀ {c : Sx} {st : List Stmt}, chkSs g T N c s st = true → ∀ {X : Cx} {W : L2.WX}, FineS g cl M T N X W c → PSs X st (tSs g cl M W n pr s)
theorem tgB_ok {c : Sx} {i : Nat} {x : Str} (h : tgB N c i x = true) {X : Cx} {W : L2.WX} (Gd : FineS g cl M T N X W c) : X.N.Nodup ∧ X.N[i]? = some x ∧ Loc X.env.scope x ∧ N[i]? = some x := by
  simp only [tgB, Bool.and_eq_true, decide_eq_true_eq] at h
  exact ⟨by rw [Gd.f.nm]; exact Gd.f.nd, by rw [Gd.f.nm]; exact h.1, Gd.f.loc h.2, h.1⟩
theorem q_set (t : Tg) (e : Ex) : Q1 g cl M T N n pr (.set t e) := by
  intro c st h X W Gd
  simp only [chkS] at h
  split at h
  · rename_i tg v pos
    rw [Bool.and_eq_true] at h
    obtain ⟨h1, h⟩ := h
    have he := (chkE_ok e h1 Gd.f).1
    cases t with
    | name i =>
      simp only at h
      split at h
      · rename_i x px
        simp only [Bool.and_eq_true, Bool.or_eq_true, Bool.not_eq_true'] at h
        obtain ⟨h2, h3⟩ := h
        obtain ⟨n1, n2, n3, n4⟩ := tgB_ok h2 Gd
        have hsw := swB_ok (v := v) (x := x) (px := px) (line := pos.line) (h3.imp id fun z => by
          cases v <;> first | exact ⟨_, _, _, _, rfl⟩ | cases z.2) Gd.f.sc Gd.kd
        refine ss_set ?_
        cases hb : swB c.sc v x px with
        | false =>
          rw [hb] at hsw
          exact ps_set n1 n2 n3 he.pe hsw (.inl (Gd.fn x))
        | true =>
          rw [hb] at hsw
          have hlc : lclB c.sc x = true := by
            unfold swB at hb
            split at hb
            · simp only [Bool.and_eq_true] at hb; exact hb.1.1
            · cases hb
          rcases h3 with h3 | ⟨h3, _⟩
          · unfold swB at hb
            split at hb
            · cases h3
            · cases hb
          · cases e <;> first | cases h3 | skip
            exact lc_at h1 Gd.f n4 hlc hsw
      · cases h
    | tup ts =>
      simp only [Bool.and_eq_true] at h
      obtain ⟨⟨h2, h3⟩, h4⟩ := h
      obtain ⟨p, hn⟩ := chkTg_ok (.tup ts) h3 Gd.f
      refine ss_tup (PF_set he.pe p (swS_pure fun x q z => by rw [z] at h2; cases h2) ?_ hn)
      simp only [Bool.or_eq_true, Bool.not_eq_true'] at h4
      rcases h4 with h4 | h4
      · exact swapT_none h4
      · split at h4
        · split at h4
          · rename_i hs
            exact swapN_ok hs Gd.f.sc Gd.kd
          · cases h4
        · cases h4
  · cases h
theorem parB_ok {c : Sx} {X : Cx} {W : L2.WX} (Gd : FineS g cl M T N X W c) {i : Nat} {is : List Nat} {e : Expr} {es : List Expr} (h : parB N c (i :: is) (e :: es) = true) : ∃ x p, e = .Name x p ∧ X.N[i]? = some x ∧ N[i]? = some x ∧ X.env.scope.names.lookup x = some .local ∧ parB N c is es = true := by
  cases e <;> simp only [parB, Bool.and_eq_true, decide_eq_true_eq, Bool.false_eq_true] at h
  exact ⟨_, _, rfl, by rw [Gd.f.nm]; exact h.1.1, h.1.1, Gd.f.lcl h.1.2, h.2⟩
theorem q_par (is : List Nat) (es : Es) : Q1 g cl M T N n pr (.par is es) := by
  intro c st h X W Gd
  simp only [chkS] at h
  split at h
  · rename_i ts k p vs k2 p2 pos
    simp only [Bool.and_eq_true, Bool.or_eq_true, decide_eq_true_eq] at h
    obtain ⟨⟨⟨⟨h1, h2⟩, h3⟩, h4⟩, h5⟩ := h
    have al := (chkL_ok es h4 Gd.f).1
    split at h5
    · rename_i ns hs
      simp only [decide_eq_true_eq] at h5
      subst h5
      have hw := swapN_ok (k := k) (k2 := k2) (p := p) (p2 := p2) hs Gd.f.sc Gd.kd
      have hlen : vs.length = ts.length := by
        unfold swapN at hs
        split at hs
        · cases hs
        · rename_i hc
          simp only [Bool.or_eq_true, not_or, bne_iff_ne, ne_eq, Decidable.not_not] at hc
          exact hc.2
      have nd : X.N.Nodup := by rw [Gd.f.nm]; exact Gd.f.nd
      match is, h3 with
      | [i, j], _ =>
        match ts, h1 with
        | [a, b], h1 =>
          obtain ⟨x, px, rfl, x1, x2, x3, h1⟩ := parB_ok Gd h1
          obtain ⟨y, py, rfl, y1, y2, y3, h1⟩ := parB_ok Gd h1
          match vs, hlen with
          | [v1, v2], _ =>
            simp only [List.map_cons, List.map_nil, x2, y2, Option.getD_some] at hw
            exact ss_par2 (ps_par Gd.f.calm nd x1 y1 (by intro z; subst z; simp at h2) x3 y3 al.cl' hw)
        | [], h1 => simp [parB] at h1
        | [a], h1 => cases a <;> simp [parB] at h1
        | a :: b :: d :: r, h1 => cases a <;> cases b <;> simp [parB] at h1
      | [i, j, l], _ =>
        match ts, h1 with
        | [a, b, d], h1 =>
          obtain ⟨x, px, rfl, x1, x2, x3, h1⟩ := parB_ok Gd h1
          obtain ⟨y, py, rfl, y1, y2, y3, h1⟩ := parB_ok Gd h1
          obtain ⟨z, pz, rfl, z1, z2, z3, h1⟩ := parB_ok Gd h1
          match vs, hlen with
          | [v1, v2, v3], _ =>
            simp only [List.map_cons, List.map_nil, x2, y2, z2, Option.getD_some] at hw
            exact ss_par3 (ps_par3 Gd.f.calm nd x1 y1 z1 (by intro q; subst q; simp at h2) (by intro q; subst q; simp at h2) (by intro q; subst q; simp at h2) x3 y3 z3 al.cl' hw)
        | [], h1 => simp [parB] at h1
        | [a], h1 => cases a <;> simp [parB] at h1
        | [a, b], h1 => cases a <;> cases b <;> simp [parB] at h1
        | a :: b :: d :: e :: r, h1 => cases a <;> cases b <;> cases d <;> simp [parB] at h1
    · cases h5
  · cases h
theorem q_setix (i : Nat) (k e : Ex) : Q1 g cl M T N n pr (.setix i k e) := by
  intro c st h X W Gd
  simp only [chkS] at h
  split at h
  · rename_i o ke sp v pos
    simp only [Bool.and_eq_true, Bool.not_eq_true'] at h
    obtain ⟨⟨⟨⟨h1, h2⟩, h3⟩, h4⟩, h5⟩ := h
    refine ss_setix (ps_asg (sf_of (chkE_ok e h4 Gd.f).1.pe) (pg_sub (Gd.f.var h1) (chkE_ok k h2 Gd.f).1.pe set_list fun v => ?_) (swS_pure fun x q z => by cases z) (swapT_other rfl rfl) rfl)
    cases ke <;> first | rfl | cases h3
  · cases h
theorem q_app (i : Nat) (e : Ex) : Q1 g cl M T N n pr (.app i e) := by
  intro c st h X W Gd
  simp only [chkS] at h
  split at h
  · rename_i o name ap x cp pos
    simp only [Bool.and_eq_true, decide_eq_true_eq, Bool.not_eq_true'] at h
    obtain ⟨⟨⟨⟨⟨rfl, h2⟩, h3⟩, h4⟩, h5⟩, h6⟩ := h
    exact app_ps (Gd.f.var h4) (chkE_ok e h6 Gd.f).1.pe h5 (base_of h3 _ _) h2 (by rw [(plain_star (es := [x]) (by simp [h5])).2]; rfl) rfl
  · cases h
theorem q_ex (e : Ex) : Q1 g cl M T N n pr (.ex e) := by
  intro c st h X W Gd
  simp only [chkS] at h
  split at h
  · simp only [Bool.and_eq_true, Bool.not_eq_true'] at h
    exact ss_ex (chkE_ok e h.1 Gd.f).1.pe (swE_pure h.2)
  · cases h
theorem q_ret (m : Ex) : Q1 g cl M T N n pr (.ret m) := by
  intro c st h X W Gd
  simp only [chkS] at h
  split at h
  · split at h
    · exact ss_retv (Gd.f.var h)
    · rename_i hm
      exact ss_ret (fun i z => hm i z) (chkE_ok m h Gd.f).1.pe
  · split at h
    · exact ss_retN
    · cases h
  · cases h
theorem q_ife (t : Ex) (a b : Ss) (ha : Q2 g cl M T N n pr a) (hb : Q2 g cl M T N n pr b) : Q1 g cl M T N n pr (.ife t a b) := by
  intro c st h X W Gd
  simp only [chkS] at h
  split at h
  · simp only [Bool.and_eq_true, Bool.not_eq_true'] at h
    obtain ⟨⟨⟨h1, h2⟩, h3⟩, h4⟩ := h
    exact ss_if ((chkE_ok t h1 Gd.f).1.pt h2) (ha h3 Gd) (hb h4 Gd)
  · cases h
theorem q_for (tg : Tg) (it : Iter) (b : Ss) (hb : Q2 g cl M T N n pr b) : Q1 g cl M T N n pr (.for_ tg it b) := by
  intro c st h X W Gd
  simp only [chkS] at h
  split at h
  · simp only [Bool.and_eq_true] at h
    obtain ⟨⟨h1, h2⟩, h3⟩ := h
    obtain ⟨pi, hs⟩ := chkI_ok it h1 Gd.f
    exact ss_for Gd.ps Gd.f.calm pi (chkTg_ok tg h2 Gd.f).1 (hb h3 Gd) hs
  · cases h
theorem q_whl (t : Ex) (b : Ss) (hb : Q2 g cl M T N n pr b) : Q1 g cl M T N n pr (.whl t b) := by
  intro c st h X W Gd
  simp only [chkS] at h
  split at h
  · simp only [Bool.and_eq_true, Bool.not_eq_true'] at h
    obtain ⟨⟨h1, h2⟩, h3⟩ := h
    exact ss_whl Gd.ps ((chkE_ok t h1 Gd.f).1.pt h2) (hb h3 Gd)
  · cases h
theorem q_pass : Q1 g cl M T N n pr .pass := by
  intro c st h X W Gd
  simp only [chkS] at h
  split at h
  · exact ss_pass ps_pass
  · exact ss_pass ps_doc
  · cases h
theorem q_brk : Q1 g cl M T N n pr .brk := by
  intro c st h X W Gd
  simp only [chkS] at h
  split at h
  · exact ss_brk
  · cases h
theorem q_cont : Q1 g cl M T N n pr .cont := by
  intro c st h X W Gd
  simp only [chkS] at h
  split at h
  · exact ss_cont
  · cases h
theorem q_raise (k : Nat) (e : Ex) : Q1 g cl M T N n pr (.raise k e) := by
  intro c st h X W Gd
  simp only [chkS] at h
  split at h
  · simp only [Bool.and_eq_true, decide_eq_true_eq] at h
    obtain ⟨⟨⟨⟨⟨h1, h2⟩, h3⟩, h4⟩, h5⟩, h6⟩ := h
    rw [Bool.not_eq_true'] at h6
    obtain ⟨f, hf⟩ := Option.isSome_iff_exists.mp h2
    obtain ⟨x', C, hx', hC, hxf, T'⟩ := Gd.f.xc k f hf
    rw [h1] at hx'; cases hx'
    rw [h6] at T'
    exact ss_raise Gd.f.K Gd.f.calm Gd.f.tk hC hxf T' Gd.f.rm (Gd.f.gl h3) h4 (chkE_ok e h5 Gd.f).1.pe
  · cases h
theorem q_raise0 (k : Nat) : Q1 g cl M T N n pr (.raise0 k) := by
  intro c st h X W Gd
  simp only [chkS] at h
  split at h
  · simp only [Bool.and_eq_true, decide_eq_true_eq] at h
    obtain ⟨⟨⟨h1, h2⟩, h3⟩, h4⟩ := h
    obtain ⟨f, hf⟩ := Option.isSome_iff_exists.mp h2
    obtain ⟨x', C, hx', hC, hxf, T'⟩ := Gd.f.xc k f hf
    rw [h1] at hx'; cases hx'
    rw [h3] at T'
    exact ss_raise0 Gd.f.calm Gd.f.tk hC hxf T' Gd.f.rm (Gd.f.gl h4)
  · cases h
/-- within a try -/
theorem FineS.tr {X : Cx} {W W' : L2.WX} {c : Sx} (Gd : FineS g cl M T N X W c) {pn : List (Addr × Obj)} {xe : Value → Shared → Prop} (tk : Takes (X.tr pn xe) W') (ps : PassesOwn (model X.prog X.w) X.A X.env xe) : FineS g cl M T N (X.tr pn xe) W' c :=
  ⟨⟨Gd.f.nm, Gd.f.nd, Gd.f.sc, Gd.f.fnb, Gd.f.calm, Gd.f.K, Gd.f.un, tk, fun f fd x ps h1 h2 => ⟨(Gd.f.fns f fd x ps h1 h2).ex⟩, Gd.f.bl, Gd.f.rm, Gd.f.fv, Gd.f.xc, Gd.f.xs, Gd.f.xi, Gd.f.glo⟩, Gd.kd, Gd.fn, ps, Gd.hex, Gd.stk, Gd.frm⟩
theorem q_try (b : Ss) (k i j : Nat) (hb : Q2 g cl M T N n pr b) : Q1 g cl M T N n pr (.try_ b k i j) := by
  intro c st h X W Gd
  simp only [chkS] at h
  split at h
  · simp only [Bool.and_eq_true, decide_eq_true_eq] at h
    obtain ⟨⟨⟨⟨⟨⟨⟨⟨⟨h1, h2⟩, h3⟩, h4⟩, h5⟩, h6⟩, h7⟩, h8⟩, h9⟩, h10⟩ := h
    subst h9
    obtain ⟨f, hf⟩ := Option.isSome_iff_exists.mp h3
    obtain ⟨x', C, hx', hC, hxf, T'⟩ := Gd.f.xc k f hf
    rw [h2] at hx'; cases hx'
    exact ss_try Gd.hex Gd.stk Gd.frm (by rw [Gd.f.nm]; exact Gd.f.nd) (by rw [Gd.f.nm]; exact h5) (by rw [Gd.f.nm]; exact h7) (Gd.f.lcl h6) (Gd.f.lcl h8) ⟨Gd.f.gl h4, T'.db, .inl T'.mgC⟩ hC (fun c' q C' hq hC' => Gd.f.xs c' k q C' C hq hC' hC) Gd.f.tk (okN_d h10)
      (fun W' pn xe tk' ps' => hb h1 (Gd.tr tk' ps')) (swB_ok (.inl rfl) Gd.f.sc Gd.kd)
  · cases h
theorem q2_nil : Q2 g cl M T N n pr .nil := by
  intro c st h X W Gd
  simp only [chkSs, List.isEmpty_iff] at h
  subst h
  exact sss_nil
theorem q2_cons (s : St) (r : Ss) (h1 : Q1 g cl M T N n pr s) (h2 : Q2 g cl M T N n pr r) : Q2 g cl M T N n pr (.cons s r) := by
  intro c st h X W Gd
  simp only [chkSs] at h
  split at h
  · simp only [Bool.and_eq_true] at h
    exact sss_cons (h1 h.1 Gd) (h2 h.2 Gd)
  · cases h
mutual
theorem chkS_ok : ∀ s : St, Q1 g cl M T N n pr s
  | .set t e => q_set t e
  | .par is es => q_par is es
  | .setix i k e => q_setix i k e
  | .app i e => q_app i e
  | .ext i e => fun h => by simp [chkS] at h
  | .ex e => q_ex e
  | .ret m => q_ret m
  | .ife t a b => q_ife t a b (chkSs_ok a) (chkSs_ok b)
  | .for_ tg it b => q_for tg it b (chkSs_ok b)
  | .whl t b => q_whl t b (chkSs_ok b)
  | .pass => q_pass
  | .raise k e => q_raise k e
  | .try_ b k i j => q_try b k i j (chkSs_ok b)
  | .raise0 k => q_raise0 k
  | .brk => q_brk
  | .cont => q_cont
  | .stk => fun _ _ _ _ => ss_stk
theorem chkSs_ok : ∀ s : Ss, Q2 g cl M T N n pr s
  | .nil => q2_nil
  | .cons s r => q2_cons s r (chkS_ok s) (chkSs_ok r)
end
end
end Ev
end

section
set_option maxHeartbeats 0
namespace Ev
open PySem PySem.Spec PyProof.Rows L2

section
variable {M : Mx} {σ σ' : L2.St} {F H : Hp} {ρ ρ' : Rho}
theorem app_none {cs : List Cell} {m j : Nat} {c : Cell} (h : (cs.map some ++ List.replicate m none)[j]? = some (some c)) : (cs.map some)[j]? = some (some c) ∧ j < cs.length := by
  by_cases hj : j < cs.length
  · rw [List.getElem?_append_left (by simpa using hj)] at h
    exact ⟨h, hj⟩
  · rw [List.getElem?_append_right (by simpa using hj)] at h
    rw [List.getElem?_replicate] at h
    split at h <;> cases h
/-- a def's names at its entry -/
theorem Rl.enter {cs : List Cell} {vs : List V} {N : List Str} {n np : Nat} (R : Rl M (cs.map some) (vs.map some) F H) (hl : cs.length = vs.length) (hn : n = N.length) (hp : vs.length = np) (hle : np ≤ n) :
    Rl M (cs.map some ++ List.replicate (n - np) none) (L2.start N vs) F H ∧ (∀ (i : Nat) (c : Cell), (cs.map some ++ List.replicate (n - np) none)[i]? = some (some c) → (cs.map some)[i]? = some (some c) ∧ (L2.start N vs)[i]? = (vs.map some)[i]?) ∧ ∀ j, j < vs.length → (L2.start N vs)[j]? = (vs.map some)[j]? := by
  have key : ∀ j, j < vs.length → (L2.start N vs)[j]? = (vs.map some)[j]? := fun j hj => by
    unfold L2.start
    rw [List.getElem?_append_left (by simpa using hj)]
  have sub : ∀ (i : Nat) (c : Cell), (cs.map some ++ List.replicate (n - np) none)[i]? = some (some c) → (cs.map some)[i]? = some (some c) ∧ (L2.start N vs)[i]? = (vs.map some)[i]? := fun i c h => by
    obtain ⟨h1, h2⟩ := app_none h
    exact ⟨h1, key i (by omega)⟩
  refine ⟨R.less ?_ sub, sub, key⟩
  unfold L2.start
  simp only [List.length_append, List.length_map, List.length_replicate]
  omega
end
theorem split_list {α : Type} {us ws : List α} {n : Nat} (h : us.length + ws.length = n) : ∃ (l : List α) (j : Nat), l.length = n ∧ j ≤ n ∧ us = l.take j ∧ ws = l.drop j :=
  ⟨us ++ ws, us.length, by rw [List.length_append, h], by omega, by simp, by simp⟩
/-- a def, as it stands in the text and as the evaluator has it -/
structure DefAt (K : PySem.W.Frag) (mg : Str → Option Value) (g : G) (T : Tbl) (f : Nat) (fd : Fn) (x : Str) (ps : List Str) (a : Addr) (fdt : FuncData) : Prop where
  ex : ∃ (qual : Str) (params : Arguments) (body : List Stmt) (scope : Scope) (kws : List (Str × V)) (N : List Str), FunD K x qual params body scope [] kws a fdt ∧ FnScope N ps scope ∧ fd.n = N.length ∧ fd.np = ps.length ∧
    chkSs g T N ⟨scope, none⟩ fd.body body = true ∧ mg x = some (.ref a) ∧
    (∀ (kV doc pm : Value) (an : Option Addr) (cdv ct : Value) (us : List Value), us.length = ps.length → bindArgs (PySem.W.fnOf x qual params body scope .none kV doc pm an cdv ct) ⟨us, []⟩ = pure (ps.zip us)) ∧
    ∀ (kV doc pm : Value) (an : Option Addr) (cdv ct : Value) (us ws : List Value), us.length + ws.length = ps.length → bindArgs (PySem.W.fnOf x qual params body scope .none kV doc pm an cdv ct) ⟨us, (ps.drop us.length).zip ws⟩ = pure (ps.zip (us ++ ws))
structure TopOk (K : PySem.W.Frag) (mg : Str → Option Value) (g : G) (T : Tbl) (M : Mx) : Prop where
  kk : M.K = K
  defs : ∀ f fd, g.fn f = some fd → ∃ x ps a fdt, T.fn f = some (x, ps) ∧ DefAt K mg g T f fd x ps a fdt
  bl : ∀ x ∈ blNames, mg x = none
  fa : ∀ f x ps a, T.fn f = some (x, ps) → mg x = some (.ref a) → M.fa f = some a
  xc : ∀ k f, g.xf k = some f → ∃ x C, T.cl k = some x ∧ M.ca k = some C ∧ M.xf k = [f] ∧ ∀ (P : Program) (w : World) (base : Heap), Eh.XEi P w K mg base x f C (g.x0 k)
  xs : ∀ k' k b C' C, g.xs k' k = some b → M.ca k' = some C' → M.ca k = some C → PySem.W.exmOne K (.ref C') (.ref C) = some b
  xi : XiOk g M K mg
  glo : ∀ i d x, g.glo i = some d → T.gl i = some x → ∃ v u, mg x = some u ∧ RelV v u ∧ ∀ F, RepF M F d v
theorem DefAt.binds {K : PySem.W.Frag} {mg : Str → Option Value} {g : G} {T : Tbl} {f : Nat} {fd : Fn} {x : Str} {ps : List Str} {a : Addr} {fdt : FuncData} (D : DefAt K mg g T f fd x ps a fdt) : mg x = some (.ref a) ∧ PySem.W.keepIn K (.ref a) = true ∧ Binds K fdt ps [] ∧
    (∀ (s : Shared) (us ws : List Value), K.In s.heap → us.length + ws.length = ps.length → BindsTo s fdt ⟨us, (ps.drop us.length).zip ws⟩ (ps.zip (us ++ ws))) ∧ ∀ (s : Shared) (us : List Value), us.length = ps.length → BindsTo s fdt ⟨us, []⟩ (ps.zip us) := by
  obtain ⟨qual, params, body, scope, kws, N, FD, S, hn, hp, hch, hm, hb1, hb2⟩ := D.ex
  refine ⟨hm, FD.kp, FD.bindsN hb1, ?_, FD.bindsA hb1⟩
  obtain ⟨oc, od, dV, kV, doc, pm, an, cdv, ct, osl, rfl, lk, hcd, hD, hK⟩ := FD.ex
  rcases hD with ⟨_, rfl⟩ | ⟨e, _⟩
  · exact fun s us ws _ hl => .of_eq (hb2 kV doc pm an cdv ct us ws hl)
  · exact absurd rfl e
section
variable {P : Program} {w : World} {K : PySem.W.Frag} {mg : Str → Option Value} {base : Heap} {g : G} {T : Tbl} {M : Mx} {n : Nat}
theorem body_end {k : Nat} {f : Nat} {fd : Fn} {cs : List Cell} {vs : List V} {F H : Hp} {Q : VK} {E : XK} {N : List Str} {ps : List Str} (hf : g.fn f = some fd) (hn : fd.n = N.length) (hl : cs.length = vs.length) (hp : vs.length = fd.np) (R : Rl M (cs.map some) (vs.map some) F H)
    (p : CPost M (evCall g n (k + 1)) f fd cs vs F H Q E) : tSs g (evCall g n k) M (fun cls d _ H' => E cls d H') n fd.mu fd.body { nx := fun _ H' => Q .non H', rt := Q } (L2.start N vs) H := by
  unfold CPost at p
  simp only [evCall, hf] at p
  split at p
  · rename_i c ρc hcl
    split at hcl
    · rename_i hc
      obtain ⟨R0, sub, key⟩ := R.enter (N := N) hl hn hp hc.2
      refine ⟨_, F, R0, ?_⟩
      have st : ∀ {ρ' : Rho} {σ' : L2.St} {F' H' : Hp}, Stp (Fo (cs.map some ++ List.replicate (fd.n - fd.np) none) (L2.start N vs)) F H (Fo ρ' σ') F' H' → Stp (Fo (cs.map some) (vs.map some)) F H (Fo ρ' σ') F' H' := fun s =>
        ⟨s.mono, fun p o e nn => s.keep p o e fun z => nn (ow_less sub z), s.stay, fun p z => (s.fresh p z).imp (ow_less sub) id, fun j z => let ⟨d, e⟩ := s.see j z; ⟨d, (sub j _ e).1⟩⟩
      have kp : ∀ {σ' : L2.St}, Kp fd.mu (L2.start N vs) σ' → ∀ j, fd.mu.contains j = true → j < vs.length → σ'[j]? = (vs.map some)[j]? := fun k j h1 h2 => (k j h1).trans (key j h2)
      cases ho : evSs g (evCall g n k) n fd.mu fd.body (cs.map some ++ List.replicate (fd.n - fd.np) none) with
      | none => rw [ho] at hcl; cases hcl
      | some o =>
        rw [ho] at hcl
        cases o with
        | nx ρ' =>
          cases hcl
          exact fun σ' F' H' R' s' k' => p .non σ' F' H' R' (st s') (kp k') trivial rfl fun a ha => absurd ha.1 (by simp [isOwn])
        | rt c' ρ' =>
          cases hcl
          exact fun v σ' F' H' R' s' k' pc => p v σ' F' H' R' (st s') (kp k') pc.1 pc.2.1 fun a ha => ⟨(pc.2.2 a ha).1, (pc.2.2 a ha).2.imp (ow_less sub) id⟩
        | bk ρ' => cases hcl
        | ct ρ' => cases hcl
        | ex x ρ' => cases hcl
    · cases hcl
  · rename_i x ρc hcl
    split at hcl
    · rename_i hc
      obtain ⟨R0, sub, key⟩ := R.enter (N := N) hl hn hp hc.2
      refine ⟨_, F, R0, ?_⟩
      cases ho : evSs g (evCall g n k) n fd.mu fd.body (cs.map some ++ List.replicate (fd.n - fd.np) none) with
      | none => rw [ho] at hcl; cases hcl
      | some o =>
        rw [ho] at hcl
        cases o with
        | nx ρ' => cases hcl
        | rt c' ρ' => cases hcl
        | bk ρ' => cases hcl
        | ct ρ' => cases hcl
        | ex x ρ' =>
          cases hcl
          exact fun cls dx σ' F' H' R' s' k' rx => p cls dx σ' F' H' R' ⟨s'.mono, fun p o e nn => s'.keep p o e fun z => nn (ow_less sub z), s'.stay, fun p z => (s'.fresh p z).imp (ow_less sub) id, fun j z => let ⟨d, e⟩ := s'.see j z; ⟨d, (sub j _ e).1⟩⟩ (fun j h1 h2 => (k' j h1).trans (key j h2)) rx
    · cases hcl
  · exact p.elim
theorem fn_all (D : TopOk K mg g T M) : ∀ (k f : Nat) (fd : Fn) (x : Str) (ps : List Str) (a : Addr) (fdt : FuncData), g.fn f = some fd → T.fn f = some (x, ps) → DefAt K mg g T f fd x ps a fdt →
    FnOk P w K mg base (L2.CX P w) (k + 2) a fdt ps (spOf M (evCall g n k) f fd) := by
  intro k
  induction k with
  | zero =>
    intro f fd x ps a fdt hf hT Do
    refine ⟨fun vs H Q E ⟨cs, F, _, _, _, p⟩ => ?_, fun A outer s H args us vs Q E _ _ _ _ ⟨cs, F, _, _, _, p⟩ => ?_⟩
    · unfold CPost at p; simp only [evCall] at p
    · unfold CPost at p; simp only [evCall] at p
  | succ k ih =>
    intro f fd x ps a fdt hf hT Do
    obtain ⟨qual, params, body, scope, kws, N, FD, S, hn, hp, hch, hm, hb1, hb2⟩ := Do.ex
    refine FD.ok S (fun vs H Q E ⟨cs, F, _, h, _⟩ => h.trans hp) fun cdv A outer s H vs Q E hr ⟨cs, F, hl, hnp, R, p⟩ => ?_
    refine ⟨_, chkSs_ok (cl := evCall g n k) (M := M) (n := n) (pr := fd.mu) fd.body hch ⟨⟨rfl, S.nd, rfl, fun _ _ => rfl, rfl, D.kk, ?_, takes_of rfl rfl rfl rfl, fun f' fd' x' ps' h1 h2 => ?_, D.bl, hr.mono (by omega), fun f' fd' h1 => let ⟨x2, ps2, a2, fdt2, t2, D2⟩ := D.defs f' fd' h1; ⟨x2, ps2, a2, t2, D.fa f' x2 ps2 a2 t2 D2.binds.1, D2.binds.1⟩, fun k' f' h2 => let ⟨x, C, hx, hC, hf, h⟩ := D.xc k' f' h2; ⟨x, C, hx, hC, hf, h _ _ _⟩, D.xs, D.xi, D.glo⟩, S.kind, fun _ => rfl, passes_of rfl, rfl, rfl, rfl⟩, body_end (ps := ps) hf hn hl hnp R p⟩
    · have := hr.un
      show (A.deeper _).units + 80 < _
      omega
    · obtain ⟨x2, ps2, a2, fdt2, t2, D2⟩ := D.defs f' fd' h1
      rw [h2] at t2; cases t2
      obtain ⟨m2, kp2, b2, bk2, _⟩ := D2.binds
      exact ⟨k + 2, a2, fdt2, ih f' fd' _ _ a2 fdt2 h1 h2 D2, hr, m2, kp2, b2, bk2⟩
/-- exceptions of any world -/
def anyCX (P : Program) : CXT := fun outer H s E e s' => ∃ w, L2.CX P w outer H s E e s'
theorem anyCX_no (P : Program) (H : Hp) (s : Shared) (e : Value) (s' : Shared) (h : anyCX P [] H s (fun _ _ _ => False) e s') : False := by
  obtain ⟨w, _, _, _, _, _, _, _, _, _, _, _, _, z⟩ := h
  exact z
/-- the law's def, for the walk -/
theorem law_fn (D : TopOk K mg g T M) {k f : Nat} {fd : Fn} {x : Str} {ps : List Str} {a : Addr} {fdt : FuncData} (hf : g.fn f = some fd) (hT : T.fn f = some (x, ps)) (Do : DefAt K mg g T f fd x ps a fdt) :
    FnOk P w K mg base (anyCX P) (k + 2) a fdt ps (fun vs H Q E => ∃ n, spOf M (evCall g n k) f fd vs H Q E) where
  len := fun vs H Q E ⟨n, h⟩ => (fn_all (P := P) (w := w) (base := base) (n := n) D k f fd x ps a fdt hf hT Do).len vs H Q E h
  run := fun A outer s H args us vs Q E h1 h2 h3 h4 ⟨n, h⟩ => codeAny_mono ((fn_all (P := P) (w := w) (base := base) (n := n) D k f fd x ps a fdt hf hT Do).run A outer s H args us vs Q E h1 h2 h3 h4 h) fun r s' hq => by
    cases r with
    | error e => exact ⟨w, hq⟩
    | ok fl => cases fl <;> exact hq
/-- the law's numbers -/
theorem ints_rep {F : Hp} : ∀ ns : List Int, RepsF M F (ns.map D.int) (ns.map V.int) := RepsF.ofInts
theorem law_sp {k f : Nat} {fd : Fn} {ns : List Int} {n : Nat} {ρ : Rho} {a : Addr} {H : Hp} (hnp : fd.np = 1) (hK : M.K = K) (h : evCall g n k f [.fz (.lst (ns.map .int))] = some (.ok (.fz (.bl true)) ρ)) (hS : SqL K H a (ns.map V.int)) :
    spOf M (evCall g n k) f fd [.ref a] H (fun v _ => v = .bl true) fun _ _ _ => False := by
  refine ⟨[.fz (.lst (ns.map .int))], H, rfl, hnp.symm, ⟨rfl, Ev.le.refl H, fun i c e => ?_, fun i j ci cj b e1 e2 o1 o2 => ?_, fun i d b e => ?_⟩, ?_⟩
  · cases i with
    | zero =>
      cases e
      exact ⟨_, rfl, a, _, rfl, by rw [hK]; exact hS, ints_rep ns⟩
    | succ i => simp at e
  · cases i with
    | zero => cases e1; cases o1
    | succ i => simp at e1
  · cases i with
    | zero => cases e
    | succ i => simp at e
  · unfold CPost
    rw [h]
    exact fun v σ' F' H' _ _ _ _ r _ => r
end
end Ev
end

section
set_option maxHeartbeats 0
namespace Eh
open PySem PySem.Spec PyProof.Rows L2 Ev He
def clsBody (s : Stmt) : List Stmt := match s with
  | .ClassDef _ _ _ b _ _ _ _ _ _ _ => b
  | _ => []
def inCls (s : Stmt) (j : Nat) : Stmt := (clsBody s).getD j (.Pass ⟨0, 0, 0, 0⟩)
/-- an exception class under ValueError, with the field f -/
def rawX (K : PySem.W.Frag) (C : Addr) : Bool := match K.lookup C with
  | some ⟨.type "type", _, .cls cd, sl⟩ => (match cd.mro, sl.toList with
    | .ref C' :: bm, [_, _, _, _, some (.builtin n), _] => C' == C && n == "ValueError.__new__" && HandSPX.refsVE bm && cd.hasDict && !cd.hasDel
    | _, _ => false)
  | _ => false
theorem rawX_ok {K : PySem.W.Frag} {C : Addr} (h : rawX K C = true) : ∃ nm q N bs bm sn sub ab col dd k0 k1 k2 k3 k5, K.lookup C = some (excClassObj nm q C N bs bm true sn sub ab col dd k0 k1 k2 k3 k5 "ValueError.__new__") ∧ HandSPX.refsVE bm = true := by
  unfold rawX at h
  split at h
  · rename_i dd cd sl ho
    split at h
    · rename_i C' bm k0 k1 k2 k3 n k5 hm hs
      simp only [Bool.and_eq_true, beq_iff_eq, Bool.not_eq_true'] at h
      obtain ⟨⟨⟨⟨rfl, rfl⟩, hr⟩, hd⟩, hdel⟩ := h
      obtain ⟨nm, bs, mro, ns, qn, hd', sn, sub, ab, col, del⟩ := cd
      dsimp only at hm hd hdel
      subst hm hd hdel
      obtain ⟨l⟩ := sl
      simp only at hs
      subst hs
      exact ⟨nm, qn, ns, bs, bm, sn, sub, ab, col, dd, k0, k1, k2, k3, k5, ho, hr⟩
    · cases h
  · cases h
def xclsB (K : PySem.W.Frag) (x f : Str) : Bool := rawX K (ga K x) && (eqO (PySem.W.findIn K (.ref (ga K x)) "__setattr__") (some (some (.builtin "object.__setattr__"))) && (decide (PySem.W.subIn K (.ref (ga K x)) (.type "BaseException") = some true) && (decide (PySem.W.typeIn K (.ref (ga K x)) = some (.type "type")) &&
  (PySem.W.keepIn K (.ref (ga K x)) && (xfB K (ga K x) && (eqO (PySem.W.findIn K (.ref (ga K x)) f) (some none) && (eqO (PySem.W.nsIn K mainGlobals x) (some (some (.ref (ga K x)))) && (eqO (PySem.W.findIn K (.ref (ga K x)) "__init__") (some (some (.ref (ma K (ga K x) "__init__")))) &&
  decide (PySem.W.typeIn K (.ref (ma K (ga K x) "__init__")) = some (.type "function"))))))))))
theorem xcls_ok {P : Program} {w : World} {K : PySem.W.Frag} {h base : Heap} {mg : Str → Option Value} (X : K.In h) (G : h.Ns mainGlobals mg) {x f : Str} (b : xclsB K x f = true) (db : (x == ("__debug__" : Str)) = false) {nm qual : Str} {params : Arguments} {body : List Stmt} {scope : Scope} {fd : FuncData}
    (FD : FunD K nm qual params body scope [] [] (ma K (ga K x) "__init__") fd) (S : FnScope ["self", f] ["self", f] scope) (hb : initB f body = true) (hf : (f == ("__debug__" : Str)) = false ∧ (f == ("__classdict__" : Str)) = false)
    (l0 : scope.names.lookup ("self" : Str) = some .local) (l1 : scope.names.lookup f = some .local)
    (bd : ∀ (kV doc pm : Value) (an : Option Addr) (cdv ct : Value) (us : List Value), us.length = 2 → bindArgs (PySem.W.fnOf nm qual params body scope .none kV doc pm an cdv ct) ⟨us, []⟩ = pure ((["self", f] : List Str).zip us)) 
    (bd2 : ∀ (kV doc pm : Value) (an : Option Addr) (cdv ct : Value) (u v : Value), bindArgs (PySem.W.fnOf nm qual params body scope .none kV doc pm an cdv ct) ⟨[u], [(f, v)]⟩ = pure [(("self" : Str), u), (f, v)]) : XCls P w K mg base x f (ga K x) := by
  unfold xclsB at b
  obtain ⟨b1, b⟩ := ba b
  obtain ⟨b2, b⟩ := ba b
  obtain ⟨b3, b⟩ := ba b
  obtain ⟨b4, b⟩ := ba b
  obtain ⟨b5, b⟩ := ba b
  obtain ⟨b6, b⟩ := ba b
  obtain ⟨b7, b⟩ := ba b
  obtain ⟨b8, b⟩ := ba b
  obtain ⟨b9, b10⟩ := ba b
  exact ⟨⟨rawX_ok b1, eqO_ok b2, of_decide_eq_true b3, of_decide_eq_true b4, b5⟩, xfB_ok b6, eqO_ok b7, PySem.W.mg_of X G (eqO_ok b8), db, _, fd, eqO_ok b9, of_decide_eq_true b10, exInit FD S hb hf l0 l1, FD.bindsN bd, by
    obtain ⟨oc, od, dV, kV, doc, pm, an, cdv, ct, osl, rfl, lk, hcd, hD, hK⟩ := FD.ex
    rcases hD with ⟨_, rfl⟩ | ⟨e, _⟩
    · exact fun s u v _ => .of_eq (bd2 kV doc pm an cdv ct u v)
    · exact absurd rfl e⟩
theorem xcls0_ok {P : Program} {w : World} {K : PySem.W.Frag} {h base : Heap} {mg : Str → Option Value} (X : K.In h) (G : h.Ns mainGlobals mg) {x f : Str} (b : xclsB K x f = true) (db : (x == ("__debug__" : Str)) = false) {nm qual : Str} {params : Arguments} {body : List Stmt} {scope : Scope} {fd : FuncData}
    (FD : FunD K nm qual params body scope [] [] (ma K (ga K x) "__init__") fd) (S : FnScope ["self"] ["self"] scope) (hb : initB0 f body = true)
    (l0 : scope.names.lookup ("self" : Str) = some .local)
    (bd : ∀ (kV doc pm : Value) (an : Option Addr) (cdv ct : Value) (us : List Value), us.length = 1 → bindArgs (PySem.W.fnOf nm qual params body scope .none kV doc pm an cdv ct) ⟨us, []⟩ = pure ((["self"] : List Str).zip us)) : XCls0 P w K mg base x f (ga K x) := by
  unfold xclsB at b
  obtain ⟨b1, b⟩ := ba b
  obtain ⟨b2, b⟩ := ba b
  obtain ⟨b3, b⟩ := ba b
  obtain ⟨b4, b⟩ := ba b
  obtain ⟨b5, b⟩ := ba b
  obtain ⟨b6, b⟩ := ba b
  obtain ⟨b7, b⟩ := ba b
  obtain ⟨b8, b⟩ := ba b
  obtain ⟨b9, b10⟩ := ba b
  exact ⟨⟨rawX_ok b1, eqO_ok b2, of_decide_eq_true b3, of_decide_eq_true b4, b5⟩, xfB_ok b6, eqO_ok b7, PySem.W.mg_of X G (eqO_ok b8), db, _, fd, eqO_ok b9, of_decide_eq_true b10, exInit0 FD S hb l0, FD.bindsN bd⟩
abbrev XiL : Type := List (Option Nat × Str × Bool)
def xiOf (L : XiL) (k : Option Nat) (x : Str) : Option Bool := (L.find? fun t => decide (t.1 = k) && decide (t.2.1 = x)).map (·.2.2)
theorem xiOf_mem {L : XiL} {k : Option Nat} {x : Str} {b : Bool} (h : xiOf L k x = some b) : (k, x, b) ∈ L := by
  obtain ⟨t, ht, rfl⟩ := Option.map_eq_some_iff.mp h
  have e := List.find?_some ht
  simp only [Bool.and_eq_true, decide_eq_true_eq] at e
  obtain ⟨rfl, rfl⟩ := e
  exact List.mem_of_find?_eq_some ht
def clsVal (K : PySem.W.Frag) (x : Str) : Value := if x = "ValueError" then .type "ValueError" else .ref (ga K x)
def xiB1 (cn : Nat → Option Str) (K : PySem.W.Frag) (t : Option Nat × Str × Bool) : Bool :=
  !(t.2.1 == ("__debug__" : Str)) && (decide (t.2.1 = "ValueError") || eqO (PySem.W.nsIn K mainGlobals t.2.1) (some (some (.ref (ga K t.2.1))))) && match t.1 with
  | some k => (match cn k with
    | some c => xisB K (ga K c) && xfB K (ga K c) && decide (PySem.W.kitOne K (.ref (ga K c)) (clsVal K t.2.1) = some t.2.2)
    | none => false)
  | none => decide (PySem.W.kitOne K (.type "NoneType") (clsVal K t.2.1) = some t.2.2)
def xiB (cn : Nat → Option Str) (K : PySem.W.Frag) (L : XiL) : Bool := L.all (xiB1 cn K)
theorem boot_ve : bootBuiltins "ValueError" = some (.type "ValueError") := by kernel_rfl
theorem xi_ok {g : G} {M : Mx} {K : PySem.W.Frag} {h : Heap} {mg : Str → Option Value} {cn : Nat → Option Str} {L : XiL} (X : K.In h) (G : h.Ns mainGlobals mg) (hv : mg "ValueError" = none) (b : xiB cn K L = true) (hL : g.xi = xiOf L) (hM : ∀ k c, cn k = some c → M.ca k = some (ga K c)) : XiOk g M K mg := by
  intro k x r hr
  rw [hL] at hr
  have z := List.all_eq_true.mp b _ (xiOf_mem hr)
  simp only [xiB1, Bool.and_eq_true, Bool.or_eq_true, decide_eq_true_eq, Bool.not_eq_true'] at z
  obtain ⟨⟨z1, z2⟩, z3⟩ := z
  refine ⟨clsVal K x, ⟨z1, ?_⟩, ?_⟩
  · unfold clsVal
    split
    · rename_i e
      subst e
      exact .inr ⟨_, hv, boot_ve, rfl, by decide⟩
    · rename_i e
      exact .inl ⟨_, PySem.W.mg_of X G (eqO_ok (z2.resolve_left e)), rfl⟩
  · cases k with
    | none => exact of_decide_eq_true z3
    | some k =>
      simp only at z3 ⊢
      split at z3
      · rename_i c hc
        simp only [Bool.and_eq_true, decide_eq_true_eq] at z3
        exact ⟨_, hM k c hc, xisB_ok z3.1.1, xfB_ok z3.1.2, z3.2⟩
      · cases z3
abbrev AlY : Type := AlD × Bool
def obsY (n : Nat) (fa : List Fa) (fn : List DefD) (ex : PySem.W.Frag → Bool) (g : Addr → Option Obj) : AlY := (obsD fa fn (frG g (asD g n)), ex (frG g (asD g n)))
def valY (fn : List DefD) : AlY := (valD fn, true)
def SaysY (fa : List Fa) (fn : List DefD) (ex : PySem.W.Frag → Bool) (K : PySem.W.Frag) : Prop := SaysD fa fn K ∧ ex K = true
def hookY (n : Nat) (fa : List Fa) (fn : List DefD) (ex : PySem.W.Frag → Bool) : PySem.W.Hook where
  α := AlY
  obs := fun s => obsY n fa fn ex s.heap.get?
  val := fun _ => valY fn
  says := fun _ h => ∃ K : PySem.W.Frag, K.In h ∧ SaysY fa fn ex K
  of := fun _ _ e => ⟨_, frG_in, congrArg (fun z : AlY => z.1) e, congrArg (fun z : AlY => z.2) e⟩
  keeps := fun _ _ _ ⟨K, hK, c⟩ k => ⟨K, PySem.W.Frag.In.keeps hK k, c⟩
theorem obsY_eq {n : Nat} {fa : List Fa} {fn : List DefD} {ex : PySem.W.Frag → Bool} {g : Addr → Option Obj} {s : Shared} (h : ∀ a, g a = s.heap.get? a) : obsY n fa fn ex g = (hookY n fa fn ex).obs s := by
  have e : g = s.heap.get? := funext h
  rw [e] <;> rfl
end Eh
end

section
set_option maxHeartbeats 0
namespace Pl
open PySem Ev
theorem opd_glo {x} {r : Option (R Cell)} {ρ : Rho} : opd (.glo x) r ρ = Ev.bnd r fun c ρ => some (.ok (.c c) ρ) := rfl
theorem opd_k {d} {r : Option (R Cell)} {ρ : Rho} : opd (.k d) r ρ = Ev.bnd r fun c ρ => some (.ok (.c c) ρ) := rfl
theorem opd_tup {a} {r : Option (R Cell)} {ρ : Rho} : opd (.tup a) r ρ = Ev.bnd r fun c ρ => some (.ok (.c c) ρ) := rfl
theorem opd_lst {a} {r : Option (R Cell)} {ρ : Rho} : opd (.lst a) r ρ = Ev.bnd r fun c ρ => some (.ok (.c c) ρ) := rfl
theorem opd_bin {a b c} {r : Option (R Cell)} {ρ : Rho} : opd (.bin a b c) r ρ = Ev.bnd r fun c ρ => some (.ok (.c c) ρ) := rfl
theorem opd_neg {a} {r : Option (R Cell)} {ρ : Rho} : opd (.neg a) r ρ = Ev.bnd r fun c ρ => some (.ok (.c c) ρ) := rfl
theorem opd_not {a} {r : Option (R Cell)} {ρ : Rho} : opd (.not a) r ρ = Ev.bnd r fun c ρ => some (.ok (.c c) ρ) := rfl
theorem opd_and {a} {r : Option (R Cell)} {ρ : Rho} : opd (.and a) r ρ = Ev.bnd r fun c ρ => some (.ok (.c c) ρ) := rfl
theorem opd_or {a} {r : Option (R Cell)} {ρ : Rho} : opd (.or a) r ρ = Ev.bnd r fun c ρ => some (.ok (.c c) ρ) := rfl
theorem opd_ife {a b c} {r : Option (R Cell)} {ρ : Rho} : opd (.ife a b c) r ρ = Ev.bnd r fun c ρ => some (.ok (.c c) ρ) := rfl
theorem opd_cmp {a b c} {r : Option (R Cell)} {ρ : Rho} : opd (.cmp a b c) r ρ = Ev.bnd r fun c ρ => some (.ok (.c c) ρ) := rfl
theorem opd_cmp2 {a b c d e} {r : Option (R Cell)} {ρ : Rho} : opd (.cmp2 a b c d e) r ρ = Ev.bnd r fun c ρ => some (.ok (.c c) ρ) := rfl
theorem opd_ix {a b} {r : Option (R Cell)} {ρ : Rho} : opd (.ix a b) r ρ = Ev.bnd r fun c ρ => some (.ok (.c c) ρ) := rfl
theorem opd_sl {a b c d e f} {r : Option (R Cell)} {ρ : Rho} : opd (.sl a b c d e f) r ρ = Ev.bnd r fun c ρ => some (.ok (.c c) ρ) := rfl
theorem opd_call {a b} {r : Option (R Cell)} {ρ : Rho} : opd (.call a b) r ρ = Ev.bnd r fun c ρ => some (.ok (.c c) ρ) := rfl
theorem opd_blt {a b} {r : Option (R Cell)} {ρ : Rho} : opd (.blt a b) r ρ = Ev.bnd r fun c ρ => some (.ok (.c c) ρ) := rfl
theorem opd_bm {a b c} {r : Option (R Cell)} {ρ : Rho} : opd (.bm a b c) r ρ = Ev.bnd r fun c ρ => some (.ok (.c c) ρ) := rfl
theorem opd_isi {a b c} {r : Option (R Cell)} {ρ : Rho} : opd (.isi a b c) r ρ = Ev.bnd r fun c ρ => some (.ok (.c c) ρ) := rfl
theorem opd_pop {a b} {r : Option (R Cell)} {ρ : Rho} : opd (.pop a b) r ρ = Ev.bnd r fun c ρ => some (.ok (.c c) ρ) := rfl
theorem opd_lc {a b c d e} {r : Option (R Cell)} {ρ : Rho} : opd (.lc a b c d e) r ρ = Ev.bnd r fun c ρ => some (.ok (.c c) ρ) := rfl
theorem opd_fnv {a} {r : Option (R Cell)} {ρ : Rho} : opd (.fnv a) r ρ = Ev.bnd r fun c ρ => some (.ok (.c c) ρ) := rfl
theorem opd_callv {a b} {r : Option (R Cell)} {ρ : Rho} : opd (.callv a b) r ρ = Ev.bnd r fun c ρ => some (.ok (.c c) ρ) := rfl
theorem opd_xat {a b} {r : Option (R Cell)} {ρ : Rho} : opd (.xat a b) r ρ = Ev.bnd r fun c ρ => some (.ok (.c c) ρ) := rfl
theorem opd_isx {a b} {r : Option (R Cell)} {ρ : Rho} : opd (.isx a b) r ρ = Ev.bnd r fun c ρ => some (.ok (.c c) ρ) := rfl
theorem opd_mkx {a b} {r : Option (R Cell)} {ρ : Rho} : opd (.mkx a b) r ρ = Ev.bnd r fun c ρ => some (.ok (.c c) ρ) := rfl
theorem mov_glo {x} {r : Option (R Cell)} {ρ : Rho} : mov (.glo x) r ρ = r := rfl
theorem mov_k {d} {r : Option (R Cell)} {ρ : Rho} : mov (.k d) r ρ = r := rfl
theorem mov_tup {a} {r : Option (R Cell)} {ρ : Rho} : mov (.tup a) r ρ = r := rfl
theorem mov_lst {a} {r : Option (R Cell)} {ρ : Rho} : mov (.lst a) r ρ = r := rfl
theorem mov_bin {a b c} {r : Option (R Cell)} {ρ : Rho} : mov (.bin a b c) r ρ = r := rfl
theorem mov_neg {a} {r : Option (R Cell)} {ρ : Rho} : mov (.neg a) r ρ = r := rfl
theorem mov_not {a} {r : Option (R Cell)} {ρ : Rho} : mov (.not a) r ρ = r := rfl
theorem mov_and {a} {r : Option (R Cell)} {ρ : Rho} : mov (.and a) r ρ = r := rfl
theorem mov_or {a} {r : Option (R Cell)} {ρ : Rho} : mov (.or a) r ρ = r := rfl
theorem mov_ife {a b c} {r : Option (R Cell)} {ρ : Rho} : mov (.ife a b c) r ρ = r := rfl
theorem mov_cmp {a b c} {r : Option (R Cell)} {ρ : Rho} : mov (.cmp a b c) r ρ = r := rfl
theorem mov_cmp2 {a b c d e} {r : Option (R Cell)} {ρ : Rho} : mov (.cmp2 a b c d e) r ρ = r := rfl
theorem mov_ix {a b} {r : Option (R Cell)} {ρ : Rho} : mov (.ix a b) r ρ = r := rfl
theorem mov_sl {a b c d e f} {r : Option (R Cell)} {ρ : Rho} : mov (.sl a b c d e f) r ρ = r := rfl
theorem mov_call {a b} {r : Option (R Cell)} {ρ : Rho} : mov (.call a b) r ρ = r := rfl
theorem mov_blt {a b} {r : Option (R Cell)} {ρ : Rho} : mov (.blt a b) r ρ = r := rfl
theorem mov_bm {a b c} {r : Option (R Cell)} {ρ : Rho} : mov (.bm a b c) r ρ = r := rfl
theorem mov_isi {a b c} {r : Option (R Cell)} {ρ : Rho} : mov (.isi a b c) r ρ = r := rfl
theorem mov_pop {a b} {r : Option (R Cell)} {ρ : Rho} : mov (.pop a b) r ρ = r := rfl
theorem mov_lc {a b c d e} {r : Option (R Cell)} {ρ : Rho} : mov (.lc a b c d e) r ρ = r := rfl
theorem mov_fnv {a} {r : Option (R Cell)} {ρ : Rho} : mov (.fnv a) r ρ = r := rfl
theorem mov_callv {a b} {r : Option (R Cell)} {ρ : Rho} : mov (.callv a b) r ρ = r := rfl
theorem mov_xat {a b} {r : Option (R Cell)} {ρ : Rho} : mov (.xat a b) r ρ = r := rfl
theorem mov_isx {a b} {r : Option (R Cell)} {ρ : Rho} : mov (.isx a b) r ρ = r := rfl
theorem mov_mkx {a b} {r : Option (R Cell)} {ρ : Rho} : mov (.mkx a b) r ρ = r := rfl
theorem arg_glo {fd : Fn} {j : Nat} {x} {r : Option (R Cell)} {ρ : Rho} : argOf fd j (.glo x) r ρ = Ev.bnd r fun c ρ => some (.ok (.tmp (if fd.mu.contains j then c else .fz c.d)) ρ) := rfl
theorem arg_k {fd : Fn} {j : Nat} {d} {r : Option (R Cell)} {ρ : Rho} : argOf fd j (.k d) r ρ = Ev.bnd r fun c ρ => some (.ok (.tmp (if fd.mu.contains j then c else .fz c.d)) ρ) := rfl
theorem arg_tup {fd : Fn} {j : Nat} {a} {r : Option (R Cell)} {ρ : Rho} : argOf fd j (.tup a) r ρ = Ev.bnd r fun c ρ => some (.ok (.tmp (if fd.mu.contains j then c else .fz c.d)) ρ) := rfl
theorem arg_lst {fd : Fn} {j : Nat} {a} {r : Option (R Cell)} {ρ : Rho} : argOf fd j (.lst a) r ρ = Ev.bnd r fun c ρ => some (.ok (.tmp (if fd.mu.contains j then c else .fz c.d)) ρ) := rfl
theorem arg_bin {fd : Fn} {j : Nat} {a b c} {r : Option (R Cell)} {ρ : Rho} : argOf fd j (.bin a b c) r ρ = Ev.bnd r fun c ρ => some (.ok (.tmp (if fd.mu.contains j then c else .fz c.d)) ρ) := rfl
theorem arg_neg {fd : Fn} {j : Nat} {a} {r : Option (R Cell)} {ρ : Rho} : argOf fd j (.neg a) r ρ = Ev.bnd r fun c ρ => some (.ok (.tmp (if fd.mu.contains j then c else .fz c.d)) ρ) := rfl
theorem arg_not {fd : Fn} {j : Nat} {a} {r : Option (R Cell)} {ρ : Rho} : argOf fd j (.not a) r ρ = Ev.bnd r fun c ρ => some (.ok (.tmp (if fd.mu.contains j then c else .fz c.d)) ρ) := rfl
theorem arg_and {fd : Fn} {j : Nat} {a} {r : Option (R Cell)} {ρ : Rho} : argOf fd j (.and a) r ρ = Ev.bnd r fun c ρ => some (.ok (.tmp (if fd.mu.contains j then c else .fz c.d)) ρ) := rfl
theorem arg_or {fd : Fn} {j : Nat} {a} {r : Option (R Cell)} {ρ : Rho} : argOf fd j (.or a) r ρ = Ev.bnd r fun c ρ => some (.ok (.tmp (if fd.mu.contains j then c else .fz c.d)) ρ) := rfl
theorem arg_ife {fd : Fn} {j : Nat} {a b c} {r : Option (R Cell)} {ρ : Rho} : argOf fd j (.ife a b c) r ρ = Ev.bnd r fun c ρ => some (.ok (.tmp (if fd.mu.contains j then c else .fz c.d)) ρ) := rfl
theorem arg_cmp {fd : Fn} {j : Nat} {a b c} {r : Option (R Cell)} {ρ : Rho} : argOf fd j (.cmp a b c) r ρ = Ev.bnd r fun c ρ => some (.ok (.tmp (if fd.mu.contains j then c else .fz c.d)) ρ) := rfl
theorem arg_cmp2 {fd : Fn} {j : Nat} {a b c d e} {r : Option (R Cell)} {ρ : Rho} : argOf fd j (.cmp2 a b c d e) r ρ = Ev.bnd r fun c ρ => some (.ok (.tmp (if fd.mu.contains j then c else .fz c.d)) ρ) := rfl
theorem arg_ix {fd : Fn} {j : Nat} {a b} {r : Option (R Cell)} {ρ : Rho} : argOf fd j (.ix a b) r ρ = Ev.bnd r fun c ρ => some (.ok (.tmp (if fd.mu.contains j then c else .fz c.d)) ρ) := rfl
theorem arg_sl {fd : Fn} {j : Nat} {a b c d e f} {r : Option (R Cell)} {ρ : Rho} : argOf fd j (.sl a b c d e f) r ρ = Ev.bnd r fun c ρ => some (.ok (.tmp (if fd.mu.contains j then c else .fz c.d)) ρ) := rfl
theorem arg_call {fd : Fn} {j : Nat} {a b} {r : Option (R Cell)} {ρ : Rho} : argOf fd j (.call a b) r ρ = Ev.bnd r fun c ρ => some (.ok (.tmp (if fd.mu.contains j then c else .fz c.d)) ρ) := rfl
theorem arg_blt {fd : Fn} {j : Nat} {a b} {r : Option (R Cell)} {ρ : Rho} : argOf fd j (.blt a b) r ρ = Ev.bnd r fun c ρ => some (.ok (.tmp (if fd.mu.contains j then c else .fz c.d)) ρ) := rfl
theorem arg_bm {fd : Fn} {j : Nat} {a b c} {r : Option (R Cell)} {ρ : Rho} : argOf fd j (.bm a b c) r ρ = Ev.bnd r fun c ρ => some (.ok (.tmp (if fd.mu.contains j then c else .fz c.d)) ρ) := rfl
theorem arg_isi {fd : Fn} {j : Nat} {a b c} {r : Option (R Cell)} {ρ : Rho} : argOf fd j (.isi a b c) r ρ = Ev.bnd r fun c ρ => some (.ok (.tmp (if fd.mu.contains j then c else .fz c.d)) ρ) := rfl
theorem arg_pop {fd : Fn} {j : Nat} {a b} {r : Option (R Cell)} {ρ : Rho} : argOf fd j (.pop a b) r ρ = Ev.bnd r fun c ρ => some (.ok (.tmp (if fd.mu.contains j then c else .fz c.d)) ρ) := rfl
theorem arg_lc {fd : Fn} {j : Nat} {a b c d e} {r : Option (R Cell)} {ρ : Rho} : argOf fd j (.lc a b c d e) r ρ = Ev.bnd r fun c ρ => some (.ok (.tmp (if fd.mu.contains j then c else .fz c.d)) ρ) := rfl
theorem arg_fnv {fd : Fn} {j : Nat} {a} {r : Option (R Cell)} {ρ : Rho} : argOf fd j (.fnv a) r ρ = Ev.bnd r fun c ρ => some (.ok (.tmp (if fd.mu.contains j then c else .fz c.d)) ρ) := rfl
theorem arg_callv {fd : Fn} {j : Nat} {a b} {r : Option (R Cell)} {ρ : Rho} : argOf fd j (.callv a b) r ρ = Ev.bnd r fun c ρ => some (.ok (.tmp (if fd.mu.contains j then c else .fz c.d)) ρ) := rfl
theorem arg_xat {fd : Fn} {j : Nat} {a b} {r : Option (R Cell)} {ρ : Rho} : argOf fd j (.xat a b) r ρ = Ev.bnd r fun c ρ => some (.ok (.tmp (if fd.mu.contains j then c else .fz c.d)) ρ) := rfl
theorem arg_isx {fd : Fn} {j : Nat} {a b} {r : Option (R Cell)} {ρ : Rho} : argOf fd j (.isx a b) r ρ = Ev.bnd r fun c ρ => some (.ok (.tmp (if fd.mu.contains j then c else .fz c.d)) ρ) := rfl
theorem arg_mkx {fd : Fn} {j : Nat} {a b} {r : Option (R Cell)} {ρ : Rho} : argOf fd j (.mkx a b) r ρ = Ev.bnd r fun c ρ => some (.ok (.tmp (if fd.mu.contains j then c else .fz c.d)) ρ) := rfl
theorem opd_var {i : Nat} {r : Option (R Cell)} {ρ : Rho} : opd (.var i) r ρ = (match ρ[i]? with | some (some (.fz d)) => some (.ok (.c (.fz d)) ρ) | some (some _) => some (.ok (.at_ i) ρ) | _ => none) := rfl
theorem mov_var {i : Nat} {r : Option (R Cell)} {ρ : Rho} : mov (.var i) r ρ = (match ρ[i]? with | some (some (.fz d)) => some (.ok (.fz d) ρ) | some (some (.lst ds)) => some (.ok (.lst ds) (ρ.set i none)) | some (some (.dic ks ds)) => some (.ok (.dic ks ds) (ρ.set i none)) | _ => none) := rfl
theorem arg_var {fd : Fn} {j : Nat} {i : Nat} {r : Option (R Cell)} {ρ : Rho} : argOf fd j (.var i) r ρ = (match ρ[i]? with | some (some (.fz d)) => some (.ok (.tmp (.fz d)) ρ) | some (some (.vw d)) => if fd.vw.contains j then some (.ok (.look i) ρ) else none | some (some c) => if fd.mu.contains j then some (.ok (.lend i) ρ) else if fd.vw.contains j then some (.ok (.look i) ρ) else Ev.bnd r fun c ρ => some (.ok (.tmp (.fz c.d)) ρ) | _ => none) := rfl
def forF (g : G) (cl : Nat → List Cell → Option (R Cell)) (n : Nat) (pr : List Nat) (tg : Tg) (b : Ss) : D → Rho → Option O := fun d ρ => match asg tg d ρ with | some ρ => evSs g cl n pr b ρ | none => none
theorem evS_for {g : G} {cl : Nat → List Cell → Option (R Cell)} {n : Nat} {pr : List Nat} {tg : Tg} {it : Iter} {b : Ss} {ρ : Rho} : evS g cl n pr (.for_ tg it b) ρ = bnO (evI g cl it ρ) fun r ρ => if (tgs tg).any pr.contains then none else (match frzI r.2 ρ with | some ρ => forL (forF g cl n pr tg b) r.1 ρ | none => none) := by rw [evS]; rfl
end Pl
end

section
set_option maxHeartbeats 0
namespace Pl
open PySem Ev
def takeB : Ss := (.cons (.ife (.cmp .gt (.ix (.var 0) (.k (.int 0))) (.k (.int 0))) (.cons (.set (.name 5) (.bin .mod (.blt .int (.cons false (.ix (.var 0) (.k (.int 0))) .nil)) (.var 1))) (.cons (.setix 0 (.k (.int 0)) (.bin .fdiv (.ix (.var 0) (.k (.int 0))) (.var 1))) (.cons (.ret (.var 5)) .nil))) .nil) (.cons (.setix 0 (.k (.int 2)) (.bin .add (.ix (.var 0) (.k (.int 2))) (.k (.int 1)))) (.cons (.set (.name 2) (.bin .mod (.blt .int (.cons false (.bin .mul (.bin .add (.ix (.var 0) (.k (.int 1))) (.bin .mul (.k (.int 48271)) (.ix (.var 0) (.k (.int 2))))) (.bin .add (.k (.int 39373)) (.ix (.var 0) (.k (.int 2))))) .nil)) (.k (.int 2147483647)))) (.cons (.set (.name 3) (.bin .add (.bin .mod (.blt .int (.cons false (.var 2) .nil)) (.k (.int 40009))) (.k (.int 7)))) (.cons (.set (.name 4) (.bin .mod (.blt .int (.cons false (.bin .mul (.bin .add (.bin .add (.var 2) (.ix (.var 0) (.k (.int 2)))) (.bin .fdiv (.ix (.var 0) (.k (.int 1))) (.k (.int 1000003)))) (.var 3)) .nil)) (.k (.int 2147483629)))) (.cons (.ret (.bin .mod (.blt .int (.cons false (.bin .fdiv (.bin .mod (.blt .int (.cons false (.bin .add (.bin .mul (.var 4) (.k (.int 48271))) (.var 2)) .nil)) (.k (.int 2147483587))) (.k (.int 64))) .nil)) (.var 1))) .nil))))))
def takeF : Fn := ⟨6, 2, [0], [], takeB⟩
/-- the box -/
abbrev bx (a b c : Int) : Cell := .lst [.int a, .int b, .int c]
theorem call_eq {g : G} {n k f : Nat} {cs : List Cell} {fd : Fn} (h : g.fn f = some fd) (hl : cs.length = fd.np) (hn : fd.np ≤ fd.n) : evCall g n (k + 1) f cs = finO (evSs g (evCall g n k) n fd.mu fd.body (cs.map some ++ List.replicate (fd.n - fd.np) none)) := by
  simp only [evCall, h, hl, hn, and_self, if_true]
theorem small_of {i : Int} (h0 : 0 ≤ i) (h1 : i < 2 ^ 62) : (-small < i && i < small) = true := by
  simp only [Bool.and_eq_true, decide_eq_true_eq]
  have : (2 : Int) ^ 62 < small := by decide
  have : (0 : Int) < small := by decide
  omega
theorem take1 {g : G} {n k f : Nat} (h : g.fn f = some takeF) {a b c s : Int} (ha : 0 < a) (hs : 0 < s) (hs2 : s < 2 ^ 62) :
    evCall g n (k + 1) f [bx a b c, .fz (.int s)] = some (.ok (.fz (.int (a % s))) [some (bx (a / s) b c), some (.fz (.int s)), none, none, none, some (.fz (.int (a % s)))]) := by
  rw [call_eq h rfl (by decide)]
  have hl : s.natAbs.log2 < 9000 := by
    have : s.natAbs < 2 ^ 62 := by omega
    have h2 : s.natAbs.log2 < 62 := (Nat.log2_lt (by omega)).mpr this
    omega
  simp [takeF, takeB, evSs, evS, evE, evO, bnO, Ev.bnd, tst, opd, Od.d, Cell.d, ap1, ap2, apL, odsD, rdV, ixD, place, L2.ixN, cmpD, truth, binD, bltD, asgC, setC, updC, isLst, isOwn, setIx, finO, mov, ha, hs, hl]

theorem take2 {g : G} {n k f : Nat} (h : g.fn f = some takeF) {a b c s : Int} (ha : a = 0) (hb : 0 ≤ b) (hb2 : b < 2 ^ 62) (hc : 0 ≤ c) (hc2 : c < 2 ^ 60) (hs : 0 < s) :
    ∃ r ρ, evCall g n (k + 1) f [bx a b c, .fz (.int s)] = some (.ok (.fz (.int r)) ρ) ∧ ρ[0]? = some (some (bx a b (c + 1))) ∧ 0 ≤ r ∧ r < s := by
  rw [call_eq h rfl (by decide)]
  subst ha
  have h1 : -small < (39373 + (c + 1) : Int) ∧ (39373 + (c + 1) : Int) < small := by
    have : (2 : Int) ^ 60 + 39374 < small := by decide
    have : (0 : Int) < small := by decide
    omega
  have h2 : ∀ x : Int, -small < x % 40009 + 7 ∧ x % 40009 + 7 < small := fun x => by
    have : (100000 : Int) < small := by decide
    have := Int.emod_nonneg x (show (40009 : Int) ≠ 0 by decide)
    have := Int.emod_lt_of_pos x (show (0 : Int) < 40009 by decide)
    omega
  have h3 : -small < (48271 : Int) ∧ (48271 : Int) < small := by decide
  have l1 : Nat.log2 1000003 < 9000 := by decide
  have l2 : Nat.log2 64 < 9000 := by decide
  simp [takeF, takeB, evSs, evS, evE, evO, bnO, Ev.bnd, tst, opd, Od.d, Cell.d, ap1, ap2, apL, odsD, rdV, ixD, place, L2.ixN, cmpD, truth, binD, bltD, asgC, setC, updC, isLst, isOwn, setIx, finO, mov, hs, h1, h2, h3, l1, l2]
  exact ⟨_, _, ⟨rfl, rfl⟩, rfl, Int.emod_nonneg _ (by omega), Int.emod_lt_of_pos _ hs⟩
/-- the box stands well: at most m draws were made -/
def Bx (m : Int) (c : Cell) : Prop := ∃ a b d, c = bx a b d ∧ 0 ≤ a ∧ 0 ≤ b ∧ b < 2 ^ 62 ∧ 0 ≤ d ∧ d ≤ m
theorem Bx.mono {m m' : Int} {c : Cell} (h : Bx m c) (l : m ≤ m') : Bx m' c := by
  obtain ⟨a, b, d, e, h1, h2, h3, h4, h5⟩ := h
  exact ⟨a, b, d, e, h1, h2, h3, h4, by omega⟩
theorem take_ok {g : G} {n k f : Nat} (h : g.fn f = some takeF) {m : Int} {c : Cell} (hm : m < 2 ^ 59) (hB : Bx m c) {s : Int} (hs : 0 < s) (hs2 : s < 2 ^ 62) :
    ∃ r ρ c', evCall g n (k + 1) f [c, .fz (.int s)] = some (.ok (.fz (.int r)) ρ) ∧ ρ[0]? = some (some c') ∧ Bx (m + 1) c' ∧ 0 ≤ r ∧ r < s := by
  obtain ⟨a, b, d, rfl, h1, h2, h3, h4, h5⟩ := hB
  by_cases ha : 0 < a
  · exact ⟨_, _, _, take1 h ha hs hs2, rfl, ⟨a / s, b, d, rfl, Int.ediv_nonneg (by omega) (by omega), h2, h3, h4, by omega⟩, Int.emod_nonneg _ (by omega), Int.emod_lt_of_pos _ hs⟩
  · obtain ⟨r, ρ, e, e0, r1, r2⟩ := take2 (n := n) (k := k) h (show a = 0 by omega) h2 h3 h4 (by omega) hs
    exact ⟨r, ρ, _, e, e0, ⟨a, b, d + 1, rfl, h1, h2, h3, by omega, by omega⟩, r1, r2⟩

theorem lcL_inv {own : List Nat} {f : D → Rho → Option (R (Option D))} {P : List D → List D → Rho → Prop} : ∀ {ds acc : List D} {ρ : Rho}, P ds acc ρ → acc.length + ds.length ≤ sizeLine →
    (∀ d ds acc ρ, P (d :: ds) acc ρ → ∃ r ρ', f d (wipeR ρ own) = some (.ok r ρ') ∧ P ds (acc ++ r.toList) ρ') → ∃ l ρ', lcL own f ds acc ρ = some (.ok l ρ') ∧ P [] l ρ'
  | [], acc, ρ, h, _, _ => ⟨acc, ρ, rfl, h⟩
  | d :: ds, acc, ρ, h, hl, st => by
    obtain ⟨r, ρ', e, h'⟩ := st d ds acc ρ h
    simp only [List.length_cons] at hl
    cases r with
    | none =>
      obtain ⟨l, ρ2, e2, p⟩ := lcL_inv (ds := ds) (acc := acc) (by simpa using h') (by omega) st
      exact ⟨l, ρ2, by simp only [lcL, e]; exact e2, p⟩
    | some y =>
      obtain ⟨l, ρ2, e2, p⟩ := lcL_inv (ds := ds) (acc := acc ++ [y]) (by simpa using h') (by simp; omega) st
      refine ⟨l, ρ2, ?_, p⟩
      simp only [lcL, e]
      rw [if_pos (by omega)]
      exact e2
theorem ext_some {ρ ρ' : Rho} (hl : ρ.length = ρ'.length) (h : ∀ j, j < ρ.length → ρ[j]? = ρ'[j]?) : ρ = ρ' := List.ext_getElem? fun j => by
  by_cases hj : j < ρ.length
  · exact h j hj
  · rw [List.getElem?_eq_none (by omega), List.getElem?_eq_none (by omega)]
theorem backR_in {ρ0 ρ : Rho} {j : Nat} : ∀ {vs : List Nat}, j ∈ vs → j < ρ.length → j < ρ0.length → (backR ρ0 ρ vs)[j]? = ρ0[j]?
  | v :: vs, h, h1, h2 => by
    unfold backR
    by_cases hv : v = j
    · subst hv
      rw [List.getElem?_set_self (by rw [backR_length]; exact h1), List.getElem?_eq_getElem h2]
      rfl
    · rw [List.getElem?_set_ne hv]
      exact backR_in (by rcases List.mem_cons.mp h with e | e; · exact absurd e.symm hv
                         · exact e) h1 h2
theorem backR_out {ρ0 ρ : Rho} {j : Nat} : ∀ {vs : List Nat}, j ∉ vs → (backR ρ0 ρ vs)[j]? = ρ[j]?
  | [], _ => rfl
  | v :: vs, h => by
    simp only [List.mem_cons, not_or] at h
    unfold backR
    rw [List.getElem?_set_ne (Ne.symm h.1), backR_out h.2]
theorem lookR_out {ρ : Rho} {j : Nat} : ∀ {vs : List Nat}, j ∉ vs → (lookR ρ vs)[j]? = ρ[j]?
  | [], _ => rfl
  | v :: vs, h => by
    simp only [List.mem_cons, not_or] at h
    unfold lookR
    split <;> first | rw [List.getElem?_set_ne (Ne.symm h.1), lookR_out h.2] | exact lookR_out h.2
/-- the names are back as they were -/
theorem back_eq {ρ1 ρ' : Rho} {ls own : List Nat} (h : wipeR ρ' own = wipeR (lookR ρ1 ls) own) : backR ρ1 (backR ρ1 ρ' ls) own = ρ1 := by
  have hl : ρ'.length = ρ1.length := by
    have := congrArg List.length h
    rw [wipeR_length, wipeR_length, lookR_length] at this
    exact this
  refine ext_some (by rw [backR_length, backR_length, hl]) fun j hj => ?_
  rw [backR_length, backR_length] at hj
  by_cases h1 : j ∈ own
  · exact backR_in h1 (by rw [backR_length]; exact hj) (by omega)
  · rw [backR_out h1]
    by_cases h2 : j ∈ ls
    · exact backR_in h2 hj (by omega)
    · rw [backR_out h2]
      have := congrArg (fun l => l[j]?) h
      rw [wipeR_out h1, wipeR_out h1, lookR_out h2] at this
      exact this
/-- a comprehension that changes nothing -/
theorem lc_eval {g : G} {cl : Nat → List Cell → Option (R Cell)} {e : Ex} {own : List Nat} {t : Tg} {it : Iter} {cs : Es} {ρ ρ1 : Rho} {ds : List D} {ls : List Nat} {v : D → Option D} (hi : evI g cl it ρ = some (.ok (ds, ls) ρ1)) (hl : ds.length ≤ sizeLine) (ht : (tgs t).all own.contains = true)
    (h : ∀ d ∈ ds, ∃ ρ', lcF g cl e t cs d (wipeR (lookR ρ1 ls) own) = some (.ok (v d) ρ') ∧ wipeR ρ' own = wipeR (lookR ρ1 ls) own) : evE g cl (.lc e own t it cs) ρ = some (.ok (.lst (ds.filterMap v)) ρ1) := by
  obtain ⟨l, ρ', e1, ⟨_, p1, p2⟩⟩ := lcL_inv (own := own) (f := lcF g cl e t cs) (P := fun r acc ρ' => (∀ d ∈ r, d ∈ ds) ∧ acc ++ r.filterMap v = ds.filterMap v ∧ wipeR ρ' own = wipeR (lookR ρ1 ls) own) (ds := ds) (acc := []) (ρ := lookR ρ1 ls) ⟨fun d h => h, by simp, rfl⟩ (by simpa using hl) fun d r acc ρ2 ⟨q1, q2, q3⟩ => by
    obtain ⟨ρ', e, w⟩ := h d (q1 d (by simp))
    refine ⟨v d, ρ', by rw [q3]; exact e, fun d' hd => q1 d' (by simp [hd]), ?_, w⟩
    rw [← q2]
    cases hv : v d with
    | none => simp [hv]
    | some y => simp [hv]
  have key : evE g cl (.lc e own t it cs) ρ = Ev.bnd (evI g cl it ρ) fun r ρ => (match lcL own (lcF g cl e t cs) r.1 [] (lookR ρ r.2) with
      | some (.ok l ρ') => if (tgs t).all own.contains then some (.ok (.lst l) (backR ρ (backR ρ ρ' r.2) own)) else none
      | _ => none) := by rw [evE]; rfl
  rw [key, hi]
  simp only [Ev.bnd, e1, ht, if_true]
  simp only [List.filterMap_nil, List.append_nil] at p1
  rw [p1, back_eq p2]
end Pl
end

section
set_option maxHeartbeats 0
namespace Pl
open PySem Ev
/-- plain data at most k deep, small enough to be compared -/
def okD : Nat → D → Prop
  | k + 1, .lst ds => ds.length ≤ sizeLine ∧ ∀ d ∈ ds, okD k d
  | k + 1, .tup ds => ds.length ≤ sizeLine ∧ ∀ d ∈ ds, okD k d
  | _ + 1, .str s => SeqAt.shaped (.str s) = true
  | _ + 1, .non => True
  | _ + 1, .bl _ => True
  | _ + 1, .int _ => True
  | _, _ => False
theorem eqD_self {d : D} {p : PyData} (h : toP d = some p) (hs : SeqAt.shaped p = true) : eqD d d = some true := by
  simp only [eqD, h, hs, Bool.and_self, if_true]
  rw [SeqAt.eqv_refl p (SeqAt.canLay_of_shaped hs)]
def sameL (i : Nat) : Ex := .lc (.call i (.cons false (.var 2) (.cons false (.var 3) .nil))) [2, 3] (.tup [(.name 2), (.name 3)]) (.zip (.cons false (.var 0) (.cons false (.var 1) .nil))) .nil
def sameB (i : Nat) : Ss := (.cons (.ife (.isi (.var 1) [.list, .tuple] false) (.cons (.ife (.cmp .ne (.isi (.var 0) [.list] true) (.isi (.var 1) [.list] true)) (.cons (.ret (.k (.bl false))) .nil) .nil) (.cons (.ife (.cmp .ne (.isi (.var 0) [.tuple] true) (.isi (.var 1) [.tuple] true)) (.cons (.ret (.k (.bl false))) .nil) .nil) (.cons (.ret (.and (.cons false (.cmp .eq (.blt .len (.cons false (.var 0) .nil)) (.blt .len (.cons false (.var 1) .nil))) (.cons false (.blt .all (.cons false (sameL i) .nil)) .nil)))) .nil))) .nil) (.cons (.ife (.or (.cons false (.cmp .is (.var 1) (.k .non)) (.cons false (.isi (.var 1) [.bool, .str] false) .nil))) (.cons (.ret (.and (.cons false (.cmp .eq (.var 0) (.var 1)) (.cons false (.cmp .eq (.isi (.var 0) [.bool] true) (.isi (.var 1) [.bool] true)) (.cons false (.cmp .eq (.cmp .is (.var 0) (.k .non)) (.cmp .is (.var 1) (.k .non))) .nil))))) .nil) .nil) (.cons (.ret (.and (.cons false (.isi (.var 0) [.int] true) (.cons false (.not (.isi (.var 0) [.bool] true)) (.cons false (.cmp .eq (.var 0) (.var 1)) .nil))))) .nil)))
def sameF (i : Nat) : Fn := ⟨4, 2, [], [], sameB i⟩
theorem zip_self : ∀ l : List D, zipL l l = l.map fun d => .tup [d, d]
  | [] => rfl
  | d :: l => by simp [zipL, zip_self l]
theorem bools_map {α : Type} (l : List α) : boolsL (l.map fun _ => D.bl true) = some (l.map fun _ => true) := by
  induction l with
  | nil => rfl
  | cons a l ih => simp [boolsL, ih]
theorem fm_map {α : Type} (l : List D) (f : D → D) : ((l.map f).filterMap fun _ => some (D.bl true)) = l.map fun _ => D.bl true := by
  induction l with
  | nil => rfl
  | cons a l ih => simp [ih]
theorem same_lc {g : G} {n k i : Nat} (h : g.fn i = some (sameF i)) {c : Cell} {l : List D} (hc : c = .fz (.lst l) ∨ c = .fz (.tup l)) (hl : l.length ≤ sizeLine)
    (ih : ∀ d ∈ l, ∃ ρ, evCall g n k i [.fz d, .fz d] = some (.ok (.fz (.bl true)) ρ)) :
    evE g (evCall g n k) (sameL i) [some c, some c, none, none] = some (.ok (.lst (l.map fun _ => .bl true)) [some c, some c, none, none]) := by
  have e := lc_eval (g := g) (cl := evCall g n k) (e := .call i (.cons false (.var 2) (.cons false (.var 3) .nil))) (own := [2, 3]) (t := .tup [(.name 2), (.name 3)]) (it := .zip (.cons false (.var 0) (.cons false (.var 1) .nil))) (cs := .nil) (ρ := [some c, some c, none, none]) (ρ1 := [some c, some c, none, none]) (ds := l.map fun d => .tup [d, d]) (ls := []) (v := fun _ => some (.bl true))
    (by rcases hc with rfl | rfl <;> simp [evSs, evS.eq_1, evS.eq_2, evS.eq_3, evS.eq_5, evS.eq_6, evS.eq_7, evS.eq_8, evS.eq_9, evS.eq_12, evS.eq_13, evS.eq_15, evS.eq_16, evS.eq_17, evS_for, evI, rangeD, frzI, frzO, tgs, tgss, evE.eq_1, evE.eq_2, evE.eq_3, evE.eq_4, evE.eq_5, evE.eq_6, evE.eq_7, evE.eq_8, evE.eq_9, evE.eq_10, evE.eq_11, evE.eq_12, evE.eq_13, evE.eq_14, evE.eq_15, evE.eq_17, evE.eq_18, evE.eq_19, evE.eq_21, evE.eq_23, evE.eq_24, evE.eq_26, evE.eq_27, evO, evA, evD, evI, evAnd, evOr, evCs, callBy, agCells, lends, looks, Ag.cell, giveBack, bnO, Ev.bnd, tst, Od.d, Cell.d, ap1, ap2, apL, odsD, rdV, ixD, cmpD, truth, bltD, bmD, isiD, isTy, Ev.plain, asgC, asg, asgs, setC, setCs, updC, appC, isLst, isOwn, finO, itemsOf, seqOf, odLook, lookR, backR, wipeR, evPart, slD, recv, binD, opd_glo, opd_k, opd_tup, opd_lst, opd_bin, opd_neg, opd_not, opd_and, opd_or, opd_ife, opd_cmp, opd_cmp2, opd_ix, opd_sl, opd_call, opd_blt, opd_bm, opd_isi, opd_pop, opd_lc, opd_fnv, opd_callv, opd_xat, opd_isx, opd_mkx, mov_glo, mov_k, mov_tup, mov_lst, mov_bin, mov_neg, mov_not, mov_and, mov_or, mov_ife, mov_cmp, mov_cmp2, mov_ix, mov_sl, mov_call, mov_blt, mov_bm, mov_isi, mov_pop, mov_lc, mov_fnv, mov_callv, mov_xat, mov_isx, mov_mkx, arg_glo, arg_k, arg_tup, arg_lst, arg_bin, arg_neg, arg_not, arg_and, arg_or, arg_ife, arg_cmp, arg_cmp2, arg_ix, arg_sl, arg_call, arg_blt, arg_bm, arg_isi, arg_pop, arg_lc, arg_fnv, arg_callv, arg_xat, arg_isx, arg_mkx, opd_var, mov_var, arg_var, zipD, zip_self]) (by simpa using hl) rfl fun z hz => by
      obtain ⟨d, hd, rfl⟩ := List.mem_map.mp hz
      obtain ⟨ρ, er⟩ := ih d hd
      refine ⟨[some c, some c, some (.fz d), some (.fz d)], ?_, rfl⟩
      simp [lcF, evE.eq_16, evE.eq_22, evSs, evS.eq_1, evS.eq_2, evS.eq_3, evS.eq_5, evS.eq_6, evS.eq_7, evS.eq_8, evS.eq_9, evS.eq_12, evS.eq_13, evS.eq_15, evS.eq_16, evS.eq_17, evS_for, evI, rangeD, frzI, frzO, tgs, tgss, evE.eq_1, evE.eq_2, evE.eq_3, evE.eq_4, evE.eq_5, evE.eq_6, evE.eq_7, evE.eq_8, evE.eq_9, evE.eq_10, evE.eq_11, evE.eq_12, evE.eq_13, evE.eq_14, evE.eq_15, evE.eq_17, evE.eq_18, evE.eq_19, evE.eq_21, evE.eq_23, evE.eq_24, evE.eq_26, evE.eq_27, evO, evA, evD, evI, evAnd, evOr, evCs, callBy, agCells, lends, looks, Ag.cell, giveBack, bnO, Ev.bnd, tst, Od.d, Cell.d, ap1, ap2, apL, odsD, rdV, ixD, cmpD, truth, bltD, bmD, isiD, isTy, Ev.plain, asgC, asg, asgs, setC, setCs, updC, appC, isLst, isOwn, finO, itemsOf, seqOf, odLook, lookR, backR, wipeR, evPart, slD, recv, binD, opd_glo, opd_k, opd_tup, opd_lst, opd_bin, opd_neg, opd_not, opd_and, opd_or, opd_ife, opd_cmp, opd_cmp2, opd_ix, opd_sl, opd_call, opd_blt, opd_bm, opd_isi, opd_pop, opd_lc, opd_fnv, opd_callv, opd_xat, opd_isx, opd_mkx, mov_glo, mov_k, mov_tup, mov_lst, mov_bin, mov_neg, mov_not, mov_and, mov_or, mov_ife, mov_cmp, mov_cmp2, mov_ix, mov_sl, mov_call, mov_blt, mov_bm, mov_isi, mov_pop, mov_lc, mov_fnv, mov_callv, mov_xat, mov_isx, mov_mkx, arg_glo, arg_k, arg_tup, arg_lst, arg_bin, arg_neg, arg_not, arg_and, arg_or, arg_ife, arg_cmp, arg_cmp2, arg_ix, arg_sl, arg_call, arg_blt, arg_bm, arg_isi, arg_pop, arg_lc, arg_fnv, arg_callv, arg_xat, arg_isx, arg_mkx, opd_var, mov_var, arg_var, h, sameF, er]
  rw [sameL, e, fm_map (α := D)]
theorem opd_same {i : Nat} {r : Option (R Cell)} {ρ : Rho} : opd (sameL i) r ρ = Ev.bnd r fun c ρ => some (.ok (.c c) ρ) := rfl
theorem same_ok {g : G} {n i : Nat} (h : g.fn i = some (sameF i)) : ∀ (k : Nat) (d : D), okD k d → ∃ ρ, evCall g n k i [.fz d, .fz d] = some (.ok (.fz (.bl true)) ρ)
  | 0, d, o => by cases d <;> simp [okD] at o
  | k + 1, d, o => by
    rw [call_eq h rfl (show 2 ≤ 4 by decide)]
    have e1 : ∀ b : Bool, eqD (.bl b) (.bl b) = some true := fun b => by cases b <;> decide
    have e2 : ∀ b c : Bool, b = c → eqD (.bl b) (.bl c) = some true := fun b c e => by cases e; exact e1 b
    have e3 : eqD .non .non = some true := by decide
    have e4 : ∀ j : Int, eqD (.int j) (.int j) = some true := fun j => eqD_self rfl rfl
    cases d with
    | lst l =>
      have L := same_lc (n := n) h (Or.inl rfl) o.1 fun d hd => same_ok h k d (o.2 d hd)
      simp [sameF, sameB, evSs, evS.eq_1, evS.eq_2, evS.eq_3, evS.eq_5, evS.eq_6, evS.eq_7, evS.eq_8, evS.eq_9, evS.eq_12, evS.eq_13, evS.eq_15, evS.eq_16, evS.eq_17, evS_for, evI, rangeD, frzI, frzO, tgs, tgss, evE.eq_1, evE.eq_2, evE.eq_3, evE.eq_4, evE.eq_5, evE.eq_6, evE.eq_7, evE.eq_8, evE.eq_9, evE.eq_10, evE.eq_11, evE.eq_12, evE.eq_13, evE.eq_14, evE.eq_15, evE.eq_17, evE.eq_18, evE.eq_19, evE.eq_21, evE.eq_23, evE.eq_24, evE.eq_26, evE.eq_27, evO, evA, evD, evI, evAnd, evOr, evCs, callBy, agCells, lends, looks, Ag.cell, giveBack, bnO, Ev.bnd, tst, Od.d, Cell.d, ap1, ap2, apL, odsD, rdV, ixD, cmpD, truth, bltD, bmD, isiD, isTy, Ev.plain, asgC, asg, asgs, setC, setCs, updC, appC, isLst, isOwn, finO, itemsOf, seqOf, odLook, lookR, backR, wipeR, evPart, slD, recv, binD, opd_glo, opd_k, opd_tup, opd_lst, opd_bin, opd_neg, opd_not, opd_and, opd_or, opd_ife, opd_cmp, opd_cmp2, opd_ix, opd_sl, opd_call, opd_blt, opd_bm, opd_isi, opd_pop, opd_lc, opd_fnv, opd_callv, opd_xat, opd_isx, opd_mkx, mov_glo, mov_k, mov_tup, mov_lst, mov_bin, mov_neg, mov_not, mov_and, mov_or, mov_ife, mov_cmp, mov_cmp2, mov_ix, mov_sl, mov_call, mov_blt, mov_bm, mov_isi, mov_pop, mov_lc, mov_fnv, mov_callv, mov_xat, mov_isx, mov_mkx, arg_glo, arg_k, arg_tup, arg_lst, arg_bin, arg_neg, arg_not, arg_and, arg_or, arg_ife, arg_cmp, arg_cmp2, arg_ix, arg_sl, arg_call, arg_blt, arg_bm, arg_isi, arg_pop, arg_lc, arg_fnv, arg_callv, arg_xat, arg_isx, arg_mkx, opd_var, mov_var, arg_var, e1, e4, L, opd_same, bools_map]
    | tup l =>
      have L := same_lc (n := n) h (Or.inr rfl) o.1 fun d hd => same_ok h k d (o.2 d hd)
      simp [sameF, sameB, evSs, evS.eq_1, evS.eq_2, evS.eq_3, evS.eq_5, evS.eq_6, evS.eq_7, evS.eq_8, evS.eq_9, evS.eq_12, evS.eq_13, evS.eq_15, evS.eq_16, evS.eq_17, evS_for, evI, rangeD, frzI, frzO, tgs, tgss, evE.eq_1, evE.eq_2, evE.eq_3, evE.eq_4, evE.eq_5, evE.eq_6, evE.eq_7, evE.eq_8, evE.eq_9, evE.eq_10, evE.eq_11, evE.eq_12, evE.eq_13, evE.eq_14, evE.eq_15, evE.eq_17, evE.eq_18, evE.eq_19, evE.eq_21, evE.eq_23, evE.eq_24, evE.eq_26, evE.eq_27, evO, evA, evD, evI, evAnd, evOr, evCs, callBy, agCells, lends, looks, Ag.cell, giveBack, bnO, Ev.bnd, tst, Od.d, Cell.d, ap1, ap2, apL, odsD, rdV, ixD, cmpD, truth, bltD, bmD, isiD, isTy, Ev.plain, asgC, asg, asgs, setC, setCs, updC, appC, isLst, isOwn, finO, itemsOf, seqOf, odLook, lookR, backR, wipeR, evPart, slD, recv, binD, opd_glo, opd_k, opd_tup, opd_lst, opd_bin, opd_neg, opd_not, opd_and, opd_or, opd_ife, opd_cmp, opd_cmp2, opd_ix, opd_sl, opd_call, opd_blt, opd_bm, opd_isi, opd_pop, opd_lc, opd_fnv, opd_callv, opd_xat, opd_isx, opd_mkx, mov_glo, mov_k, mov_tup, mov_lst, mov_bin, mov_neg, mov_not, mov_and, mov_or, mov_ife, mov_cmp, mov_cmp2, mov_ix, mov_sl, mov_call, mov_blt, mov_bm, mov_isi, mov_pop, mov_lc, mov_fnv, mov_callv, mov_xat, mov_isx, mov_mkx, arg_glo, arg_k, arg_tup, arg_lst, arg_bin, arg_neg, arg_not, arg_and, arg_or, arg_ife, arg_cmp, arg_cmp2, arg_ix, arg_sl, arg_call, arg_blt, arg_bm, arg_isi, arg_pop, arg_lc, arg_fnv, arg_callv, arg_xat, arg_isx, arg_mkx, opd_var, mov_var, arg_var, e1, e4, L, opd_same, bools_map]
    | str s =>
      have := eqD_self (d := .str s) rfl o
      simp [sameF, sameB, evSs, evS.eq_1, evS.eq_2, evS.eq_3, evS.eq_5, evS.eq_6, evS.eq_7, evS.eq_8, evS.eq_9, evS.eq_12, evS.eq_13, evS.eq_15, evS.eq_16, evS.eq_17, evS_for, evI, rangeD, frzI, frzO, tgs, tgss, evE.eq_1, evE.eq_2, evE.eq_3, evE.eq_4, evE.eq_5, evE.eq_6, evE.eq_7, evE.eq_8, evE.eq_9, evE.eq_10, evE.eq_11, evE.eq_12, evE.eq_13, evE.eq_14, evE.eq_15, evE.eq_17, evE.eq_18, evE.eq_19, evE.eq_21, evE.eq_23, evE.eq_24, evE.eq_26, evE.eq_27, evO, evA, evD, evI, evAnd, evOr, evCs, callBy, agCells, lends, looks, Ag.cell, giveBack, bnO, Ev.bnd, tst, Od.d, Cell.d, ap1, ap2, apL, odsD, rdV, ixD, cmpD, truth, bltD, bmD, isiD, isTy, Ev.plain, asgC, asg, asgs, setC, setCs, updC, appC, isLst, isOwn, finO, itemsOf, seqOf, odLook, lookR, backR, wipeR, evPart, slD, recv, binD, opd_glo, opd_k, opd_tup, opd_lst, opd_bin, opd_neg, opd_not, opd_and, opd_or, opd_ife, opd_cmp, opd_cmp2, opd_ix, opd_sl, opd_call, opd_blt, opd_bm, opd_isi, opd_pop, opd_lc, opd_fnv, opd_callv, opd_xat, opd_isx, opd_mkx, mov_glo, mov_k, mov_tup, mov_lst, mov_bin, mov_neg, mov_not, mov_and, mov_or, mov_ife, mov_cmp, mov_cmp2, mov_ix, mov_sl, mov_call, mov_blt, mov_bm, mov_isi, mov_pop, mov_lc, mov_fnv, mov_callv, mov_xat, mov_isx, mov_mkx, arg_glo, arg_k, arg_tup, arg_lst, arg_bin, arg_neg, arg_not, arg_and, arg_or, arg_ife, arg_cmp, arg_cmp2, arg_ix, arg_sl, arg_call, arg_blt, arg_bm, arg_isi, arg_pop, arg_lc, arg_fnv, arg_callv, arg_xat, arg_isx, arg_mkx, opd_var, mov_var, arg_var, e1, e3, this]
    | non => simp [sameF, sameB, evSs, evS.eq_1, evS.eq_2, evS.eq_3, evS.eq_5, evS.eq_6, evS.eq_7, evS.eq_8, evS.eq_9, evS.eq_12, evS.eq_13, evS.eq_15, evS.eq_16, evS.eq_17, evS_for, evI, rangeD, frzI, frzO, tgs, tgss, evE.eq_1, evE.eq_2, evE.eq_3, evE.eq_4, evE.eq_5, evE.eq_6, evE.eq_7, evE.eq_8, evE.eq_9, evE.eq_10, evE.eq_11, evE.eq_12, evE.eq_13, evE.eq_14, evE.eq_15, evE.eq_17, evE.eq_18, evE.eq_19, evE.eq_21, evE.eq_23, evE.eq_24, evE.eq_26, evE.eq_27, evO, evA, evD, evI, evAnd, evOr, evCs, callBy, agCells, lends, looks, Ag.cell, giveBack, bnO, Ev.bnd, tst, Od.d, Cell.d, ap1, ap2, apL, odsD, rdV, ixD, cmpD, truth, bltD, bmD, isiD, isTy, Ev.plain, asgC, asg, asgs, setC, setCs, updC, appC, isLst, isOwn, finO, itemsOf, seqOf, odLook, lookR, backR, wipeR, evPart, slD, recv, binD, opd_glo, opd_k, opd_tup, opd_lst, opd_bin, opd_neg, opd_not, opd_and, opd_or, opd_ife, opd_cmp, opd_cmp2, opd_ix, opd_sl, opd_call, opd_blt, opd_bm, opd_isi, opd_pop, opd_lc, opd_fnv, opd_callv, opd_xat, opd_isx, opd_mkx, mov_glo, mov_k, mov_tup, mov_lst, mov_bin, mov_neg, mov_not, mov_and, mov_or, mov_ife, mov_cmp, mov_cmp2, mov_ix, mov_sl, mov_call, mov_blt, mov_bm, mov_isi, mov_pop, mov_lc, mov_fnv, mov_callv, mov_xat, mov_isx, mov_mkx, arg_glo, arg_k, arg_tup, arg_lst, arg_bin, arg_neg, arg_not, arg_and, arg_or, arg_ife, arg_cmp, arg_cmp2, arg_ix, arg_sl, arg_call, arg_blt, arg_bm, arg_isi, arg_pop, arg_lc, arg_fnv, arg_callv, arg_xat, arg_isx, arg_mkx, opd_var, mov_var, arg_var, e1, e3]
    | bl b => simp [sameF, sameB, evSs, evS.eq_1, evS.eq_2, evS.eq_3, evS.eq_5, evS.eq_6, evS.eq_7, evS.eq_8, evS.eq_9, evS.eq_12, evS.eq_13, evS.eq_15, evS.eq_16, evS.eq_17, evS_for, evI, rangeD, frzI, frzO, tgs, tgss, evE.eq_1, evE.eq_2, evE.eq_3, evE.eq_4, evE.eq_5, evE.eq_6, evE.eq_7, evE.eq_8, evE.eq_9, evE.eq_10, evE.eq_11, evE.eq_12, evE.eq_13, evE.eq_14, evE.eq_15, evE.eq_17, evE.eq_18, evE.eq_19, evE.eq_21, evE.eq_23, evE.eq_24, evE.eq_26, evE.eq_27, evO, evA, evD, evI, evAnd, evOr, evCs, callBy, agCells, lends, looks, Ag.cell, giveBack, bnO, Ev.bnd, tst, Od.d, Cell.d, ap1, ap2, apL, odsD, rdV, ixD, cmpD, truth, bltD, bmD, isiD, isTy, Ev.plain, asgC, asg, asgs, setC, setCs, updC, appC, isLst, isOwn, finO, itemsOf, seqOf, odLook, lookR, backR, wipeR, evPart, slD, recv, binD, opd_glo, opd_k, opd_tup, opd_lst, opd_bin, opd_neg, opd_not, opd_and, opd_or, opd_ife, opd_cmp, opd_cmp2, opd_ix, opd_sl, opd_call, opd_blt, opd_bm, opd_isi, opd_pop, opd_lc, opd_fnv, opd_callv, opd_xat, opd_isx, opd_mkx, mov_glo, mov_k, mov_tup, mov_lst, mov_bin, mov_neg, mov_not, mov_and, mov_or, mov_ife, mov_cmp, mov_cmp2, mov_ix, mov_sl, mov_call, mov_blt, mov_bm, mov_isi, mov_pop, mov_lc, mov_fnv, mov_callv, mov_xat, mov_isx, mov_mkx, arg_glo, arg_k, arg_tup, arg_lst, arg_bin, arg_neg, arg_not, arg_and, arg_or, arg_ife, arg_cmp, arg_cmp2, arg_ix, arg_sl, arg_call, arg_blt, arg_bm, arg_isi, arg_pop, arg_lc, arg_fnv, arg_callv, arg_xat, arg_isx, arg_mkx, opd_var, mov_var, arg_var, e1, e3]
    | int j => simp [sameF, sameB, evSs, evS.eq_1, evS.eq_2, evS.eq_3, evS.eq_5, evS.eq_6, evS.eq_7, evS.eq_8, evS.eq_9, evS.eq_12, evS.eq_13, evS.eq_15, evS.eq_16, evS.eq_17, evS_for, evI, rangeD, frzI, frzO, tgs, tgss, evE.eq_1, evE.eq_2, evE.eq_3, evE.eq_4, evE.eq_5, evE.eq_6, evE.eq_7, evE.eq_8, evE.eq_9, evE.eq_10, evE.eq_11, evE.eq_12, evE.eq_13, evE.eq_14, evE.eq_15, evE.eq_17, evE.eq_18, evE.eq_19, evE.eq_21, evE.eq_23, evE.eq_24, evE.eq_26, evE.eq_27, evO, evA, evD, evI, evAnd, evOr, evCs, callBy, agCells, lends, looks, Ag.cell, giveBack, bnO, Ev.bnd, tst, Od.d, Cell.d, ap1, ap2, apL, odsD, rdV, ixD, cmpD, truth, bltD, bmD, isiD, isTy, Ev.plain, asgC, asg, asgs, setC, setCs, updC, appC, isLst, isOwn, finO, itemsOf, seqOf, odLook, lookR, backR, wipeR, evPart, slD, recv, binD, opd_glo, opd_k, opd_tup, opd_lst, opd_bin, opd_neg, opd_not, opd_and, opd_or, opd_ife, opd_cmp, opd_cmp2, opd_ix, opd_sl, opd_call, opd_blt, opd_bm, opd_isi, opd_pop, opd_lc, opd_fnv, opd_callv, opd_xat, opd_isx, opd_mkx, mov_glo, mov_k, mov_tup, mov_lst, mov_bin, mov_neg, mov_not, mov_and, mov_or, mov_ife, mov_cmp, mov_cmp2, mov_ix, mov_sl, mov_call, mov_blt, mov_bm, mov_isi, mov_pop, mov_lc, mov_fnv, mov_callv, mov_xat, mov_isx, mov_mkx, arg_glo, arg_k, arg_tup, arg_lst, arg_bin, arg_neg, arg_not, arg_and, arg_or, arg_ife, arg_cmp, arg_cmp2, arg_ix, arg_sl, arg_call, arg_blt, arg_bm, arg_isi, arg_pop, arg_lc, arg_fnv, arg_callv, arg_xat, arg_isx, arg_mkx, opd_var, mov_var, arg_var, e1, e3, e4]
    | dic _ => simp [okD] at o
    | ins _ _ => simp [okD] at o
    | exc _ _ => simp [okD] at o
    | fn _ => simp [okD] at o
end Pl
end

section
set_option maxHeartbeats 0
namespace Pl
open PySem Ev
theorem lends_tmp : ∀ cs : List Cell, lends (cs.map .tmp) = []
  | [] => rfl
  | _ :: cs => lends_tmp cs
theorem looks_tmp : ∀ cs : List Cell, looks (cs.map .tmp) = []
  | [] => rfl
  | _ :: cs => looks_tmp cs
theorem cells_tmp {ρ : Rho} : ∀ cs : List Cell, agCells ρ (cs.map .tmp) = some cs
  | [] => rfl
  | c :: cs => by simp [agCells, Ag.cell, cells_tmp cs]
theorem give_tmp {ρ ρc : Rho} : ∀ (cs : List Cell) (j : Nat), giveBack ρ ρc j (cs.map .tmp) = some ρ
  | [], _ => rfl
  | c :: cs, j => give_tmp cs (j + 1)
/-- a call whose first argument is lent -/
theorem lendCall {g : G} {cl : Nat → List Cell → Option (R Cell)} {f i : Nat} {fd : Fn} (h : g.fn f = some fd) (hmu : fd.mu.contains 0 = true) {ρ ρ1 ρc : Rho} {l l1 l' : List D} (hi : ρ[i]? = some (some (.lst l))) {es : Es} {cs : List Cell} (hes : evA g cl fd 1 es ρ = some (.ok (cs.map .tmp) ρ1)) (hi1 : ρ1[i]? = some (some (.lst l1)))
    (hn : cs.length + 1 = fd.np) {v : Cell} (hc : cl f (.lst l1 :: cs) = some (.ok v ρc)) (h0 : ρc[0]? = some (some (.lst l'))) : evE g cl (.call f (.cons false (.var i) es)) ρ = some (.ok v (ρ1.set i (some (.lst l')))) := by
  have hmu' : 0 ∈ fd.mu := by simpa using hmu
  simp [evE, h, evA, arg_var, hi, hmu', Ev.bnd, hes, callBy, hn, lends, lends_tmp, looks, looks_tmp, agCells, Ag.cell, hi1, cells_tmp, hc, giveBack, h0, isOwn, give_tmp]
/-- a draw -/
theorem draw {g : G} {n k t i : Nat} (h : g.fn t = some takeF) {m : Int} (hm : m < 2 ^ 59) {c : Cell} (hB : Bx m c) {ρ : Rho} (hi : ρ[i]? = some (some c)) {s : Int} (hs : 0 < s) (hs2 : s < 2 ^ 62) {e : Ex}
    (he : argOf takeF 1 e (evE g (evCall g n (k + 1)) e ρ) ρ = some (.ok (.tmp (.fz (.int s))) ρ)) :
    ∃ r c', evE g (evCall g n (k + 1)) (.call t (.cons false (.var i) (.cons false e .nil))) ρ = some (.ok (.fz (.int r)) (ρ.set i (some c'))) ∧ Bx (m + 1) c' ∧ 0 ≤ r ∧ r < s := by
  obtain ⟨r, ρc, c', e1, e2, B, r0, r1⟩ := take_ok (n := n) (k := k) h hm hB hs hs2
  obtain ⟨a, b, d, rfl, _⟩ := hB
  obtain ⟨a', b', d', rfl, hh⟩ := B
  exact ⟨r, _, lendCall h rfl hi (cs := [.fz (.int s)]) (by simp [evA, he, Ev.bnd]) hi rfl e1 e2, ⟨a', b', d', rfl, hh⟩, r0, r1⟩
theorem place_nat {n : Nat} {r : Int} (h0 : 0 ≤ r) (h1 : r < n) : place n r = some r.toNat := by
  simp [place, L2.ixN, h0, h1]

def ofB (t : Nat) : Ss := (.cons (.ret (.ix (.var 1) (.call t (.cons false (.var 0) (.cons false (.blt .len (.cons false (.var 1) .nil)) .nil))))) .nil)
def ofF (t : Nat) : Fn := ⟨2, 2, [0], [], ofB t⟩
theorem of_ok {g : G} {n k t o : Nat} (ht : g.fn t = some takeF) (ho : g.fn o = some (ofF t)) {m : Int} (hm : m < 2 ^ 59) {c : Cell} (hB : Bx m c) {l : List D} (hl : l ≠ []) (hl2 : l.length < 2 ^ 61) :
    ∃ x ρ c', evCall g n (k + 2) o [c, .fz (.lst l)] = some (.ok (.fz x) ρ) ∧ ρ[0]? = some (some c') ∧ Bx (m + 1) c' ∧ x ∈ l := by
  have hp : 0 < l.length := List.length_pos_iff.mpr hl
  obtain ⟨r, c', e, B, r0, r1⟩ := draw (n := n) (k := k) (i := 0) ht hm hB (ρ := [some c, some (.fz (.lst l))]) rfl (s := (l.length : Int)) (by omega) (by omega) (e := .blt .len (.cons false (.var 1) .nil)) (by simp [evSs, evS.eq_1, evS.eq_2, evS.eq_3, evS.eq_5, evS.eq_6, evS.eq_7, evS.eq_8, evS.eq_9, evS.eq_12, evS.eq_13, evS.eq_15, evS.eq_16, evS.eq_17, evS_for, evI, rangeD, frzI, frzO, tgs, tgss, evE.eq_1, evE.eq_2, evE.eq_3, evE.eq_4, evE.eq_5, evE.eq_6, evE.eq_7, evE.eq_8, evE.eq_9, evE.eq_10, evE.eq_11, evE.eq_12, evE.eq_13, evE.eq_14, evE.eq_15, evE.eq_17, evE.eq_18, evE.eq_19, evE.eq_21, evE.eq_23, evE.eq_24, evE.eq_26, evE.eq_27, evO, evA, evD, evI, evAnd, evOr, evCs, callBy, agCells, lends, looks, Ag.cell, giveBack, bnO, Ev.bnd, tst, Od.d, Cell.d, ap1, ap2, apL, odsD, rdV, ixD, cmpD, truth, bltD, bmD, isiD, isTy, Ev.plain, asgC, asg, asgs, setC, setCs, updC, appC, isLst, isOwn, finO, itemsOf, seqOf, odLook, lookR, backR, wipeR, evPart, slD, recv, binD, opd_glo, opd_k, opd_tup, opd_lst, opd_bin, opd_neg, opd_not, opd_and, opd_or, opd_ife, opd_cmp, opd_cmp2, opd_ix, opd_sl, opd_call, opd_blt, opd_bm, opd_isi, opd_pop, opd_lc, opd_fnv, opd_callv, opd_xat, opd_isx, opd_mkx, mov_glo, mov_k, mov_tup, mov_lst, mov_bin, mov_neg, mov_not, mov_and, mov_or, mov_ife, mov_cmp, mov_cmp2, mov_ix, mov_sl, mov_call, mov_blt, mov_bm, mov_isi, mov_pop, mov_lc, mov_fnv, mov_callv, mov_xat, mov_isx, mov_mkx, arg_glo, arg_k, arg_tup, arg_lst, arg_bin, arg_neg, arg_not, arg_and, arg_or, arg_ife, arg_cmp, arg_cmp2, arg_ix, arg_sl, arg_call, arg_blt, arg_bm, arg_isi, arg_pop, arg_lc, arg_fnv, arg_callv, arg_xat, arg_isx, arg_mkx, opd_var, mov_var, arg_var, takeF])
  rw [call_eq ho rfl (show 2 ≤ 2 by decide)]
  have hr : r.toNat < l.length := by omega
  refine ⟨l[r.toNat], [some c', some (.fz (.lst l))], c', ?_, rfl, B, List.getElem_mem _⟩
  simp [ofF, ofB, evSs, evS.eq_1, evS.eq_2, evS.eq_3, evS.eq_5, evS.eq_6, evS.eq_7, evS.eq_8, evS.eq_9, evS.eq_12, evS.eq_13, evS.eq_15, evS.eq_16, evS.eq_17, evS_for, evI, rangeD, frzI, frzO, tgs, tgss, evE.eq_1, evE.eq_2, evE.eq_3, evE.eq_4, evE.eq_5, evE.eq_6, evE.eq_7, evE.eq_8, evE.eq_9, evE.eq_10, evE.eq_11, evE.eq_12, evE.eq_13, evE.eq_14, evE.eq_15, evE.eq_17, evE.eq_18, evE.eq_19, evE.eq_21, evE.eq_23, evE.eq_24, evE.eq_26, evE.eq_27, evO, evA, evD, evI, evAnd, evOr, evCs, callBy, agCells, lends, looks, Ag.cell, giveBack, bnO, Ev.bnd, tst, Od.d, Cell.d, ap1, ap2, apL, odsD, rdV, ixD, cmpD, truth, bltD, bmD, isiD, isTy, Ev.plain, asgC, asg, asgs, setC, setCs, updC, appC, isLst, isOwn, finO, itemsOf, seqOf, odLook, lookR, backR, wipeR, evPart, slD, recv, binD, opd_glo, opd_k, opd_tup, opd_lst, opd_bin, opd_neg, opd_not, opd_and, opd_or, opd_ife, opd_cmp, opd_cmp2, opd_ix, opd_sl, opd_call, opd_blt, opd_bm, opd_isi, opd_pop, opd_lc, opd_fnv, opd_callv, opd_xat, opd_isx, opd_mkx, mov_glo, mov_k, mov_tup, mov_lst, mov_bin, mov_neg, mov_not, mov_and, mov_or, mov_ife, mov_cmp, mov_cmp2, mov_ix, mov_sl, mov_call, mov_blt, mov_bm, mov_isi, mov_pop, mov_lc, mov_fnv, mov_callv, mov_xat, mov_isx, mov_mkx, arg_glo, arg_k, arg_tup, arg_lst, arg_bin, arg_neg, arg_not, arg_and, arg_or, arg_ife, arg_cmp, arg_cmp2, arg_ix, arg_sl, arg_call, arg_blt, arg_bm, arg_isi, arg_pop, arg_lc, arg_fnv, arg_callv, arg_xat, arg_isx, arg_mkx, opd_var, mov_var, arg_var, e, place_nat r0 r1, List.getElem?_eq_getElem hr]

theorem forL_inv {f : D → Rho → Option O} {P : List D → Rho → Prop} : ∀ {ds : List D} {ρ : Rho}, P ds ρ → (∀ d ds ρ, P (d :: ds) ρ → ∃ ρ', f d ρ = some (.nx ρ') ∧ P ds ρ') → ∃ ρ', forL f ds ρ = some (.nx ρ') ∧ P [] ρ'
  | [], ρ, h, _ => ⟨ρ, rfl, h⟩
  | d :: ds, ρ, h, st => by
    obtain ⟨ρ1, e, p⟩ := st d ds ρ h
    obtain ⟨ρ2, e2, p2⟩ := forL_inv p st
    exact ⟨ρ2, by simp only [forL, e]; exact e2, p2⟩
def pickS (t : Nat) : Ss := (.cons (.app 5 (.pop 4 (.cons false (.call t (.cons false (.var 0) (.cons false (.blt .len (.cons false (.var 4) .nil)) .nil))) .nil))) .nil)
def pickB (t : Nat) : Ss := (.cons (.par [4, 5] (.cons false (.blt .list (.cons false (.var 1) .nil)) (.cons false (.lst .nil) .nil))) (.cons (.for_ (.name 3) (.range (.cons false (.blt .min (.cons false (.blt .int (.cons false (.var 2) .nil)) (.cons false (.blt .len (.cons false (.var 4) .nil)) .nil))) .nil)) (pickS t)) (.cons (.ret (.var 5)) .nil)))
def pickF (t : Nat) : Fn := ⟨6, 3, [0], [], pickB t⟩
/-- the frame of _law_pick while it runs -/
def PickI (m : Int) (gd : Cell) (cn : Int) (l : List D) (rs : List D) (ρ : Rho) : Prop := ∃ c x pool found, ρ = [some c, some gd, some (.fz (.int cn)), x, some (.lst pool), some (.lst found)] ∧ (found ++ pool).Perm l ∧ found.length + rs.length ≤ l.length ∧ Bx (m + found.length) c
theorem erase_perm : ∀ {l : List D} {j : Nat} (h : j < l.length), (l[j] :: l.eraseIdx j).Perm l
  | a :: l, 0, _ => List.Perm.refl _
  | a :: l, j + 1, h => by
    have := erase_perm (l := l) (j := j) (by simpa using h)
    simp only [List.getElem_cons_succ, List.eraseIdx_cons_succ]
    exact (List.Perm.swap ..).trans (this.cons a)
theorem pop_perm {found pool : List D} {j : Nat} (h : j < pool.length) : ((found ++ [pool[j]]) ++ pool.eraseIdx j).Perm (found ++ pool) := by
  rw [List.append_assoc]
  exact (List.Perm.append_left found (erase_perm h))
theorem rng_len {lo : Int} {n : Nat} : (rngI lo n).length = n := by simp [rngI]
theorem pick_ok {g : G} {n k t p : Nat} (ht : g.fn t = some takeF) (hp : g.fn p = some (pickF t)) {m : Int} {c : Cell} (hB : Bx m c) {gd : D} {l : List D} (hg : gd = .lst l ∨ gd = .tup l) (hl2 : l.length ≤ 1000) (hm : m < 2 ^ 58) {cn : Int} (hc0 : 0 ≤ cn) :
    ∃ found rest ρ c', evCall g n (k + 2) p [c, .fz gd, .fz (.int cn)] = some (.ok (.lst found) ρ) ∧ ρ[0]? = some (some c') ∧ Bx (m + l.length) c' ∧ (found ++ rest).Perm l := by
  rw [call_eq hp rfl (show 3 ≤ 6 by decide)]
  have hs : ((l.length : Nat) : Int) < 2 ^ 62 := by omega
  have hj : (if (l.length : Int) < cn then (l.length : Int) else cn) ≤ l.length ∧ 0 ≤ (if (l.length : Int) < cn then (l.length : Int) else cn) := by split <;> omega
  generalize hJ : (if (l.length : Int) < cn then (l.length : Int) else cn) = J at hj
  obtain ⟨ρ', e, c', x, pool, found, rfl, pm, ln, B⟩ := forL_inv (f := forF g (evCall g n (k + 1)) n [0] (.name 3) (pickS t)) (P := PickI m (.fz gd) cn l) (ds := rngI 0 J.toNat) (ρ := [some c, some (.fz gd), some (.fz (.int cn)), none, some (.lst l), some (.lst [])]) ⟨c, none, l, [], rfl, List.Perm.refl _, by rw [rng_len]; simp; omega, by simpa using hB⟩ fun d ds ρ ⟨c, x, pool, found, e, pm, ln, B⟩ => by
    subst e
    have hpl := pm.length_eq
    simp only [List.length_append, List.length_cons] at hpl ln
    obtain ⟨r, c', e, B', r0, r1⟩ := draw (n := n) (k := k) (i := 0) ht (show m + found.length < 2 ^ 59 by omega) B (ρ := [some c, some (.fz gd), some (.fz (.int cn)), some (.fz d), some (.lst pool), some (.lst found)]) rfl (s := (pool.length : Int)) (by omega) (by omega) (e := .blt .len (.cons false (.var 4) .nil)) (by simp [evSs, evS.eq_1, evS.eq_2, evS.eq_3, evS.eq_5, evS.eq_6, evS.eq_7, evS.eq_8, evS.eq_9, evS.eq_12, evS.eq_13, evS.eq_15, evS.eq_16, evS.eq_17, evS_for, evI, rangeD, frzI, frzO, tgs, tgss, evE.eq_1, evE.eq_2, evE.eq_3, evE.eq_4, evE.eq_5, evE.eq_6, evE.eq_7, evE.eq_8, evE.eq_9, evE.eq_10, evE.eq_11, evE.eq_12, evE.eq_13, evE.eq_14, evE.eq_15, evE.eq_17, evE.eq_18, evE.eq_19, evE.eq_21, evE.eq_23, evE.eq_24, evE.eq_26, evE.eq_27, evO, evA, evD, evI, evAnd, evOr, evCs, callBy, agCells, lends, looks, Ag.cell, giveBack, bnO, Ev.bnd, tst, Od.d, Cell.d, ap1, ap2, apL, odsD, rdV, ixD, cmpD, truth, bltD, bmD, isiD, isTy, Ev.plain, asgC, asg, asgs, setC, setCs, updC, appC, isLst, isOwn, finO, itemsOf, seqOf, odLook, lookR, backR, wipeR, evPart, slD, recv, binD, opd_glo, opd_k, opd_tup, opd_lst, opd_bin, opd_neg, opd_not, opd_and, opd_or, opd_ife, opd_cmp, opd_cmp2, opd_ix, opd_sl, opd_call, opd_blt, opd_bm, opd_isi, opd_pop, opd_lc, opd_fnv, opd_callv, opd_xat, opd_isx, opd_mkx, mov_glo, mov_k, mov_tup, mov_lst, mov_bin, mov_neg, mov_not, mov_and, mov_or, mov_ife, mov_cmp, mov_cmp2, mov_ix, mov_sl, mov_call, mov_blt, mov_bm, mov_isi, mov_pop, mov_lc, mov_fnv, mov_callv, mov_xat, mov_isx, mov_mkx, arg_glo, arg_k, arg_tup, arg_lst, arg_bin, arg_neg, arg_not, arg_and, arg_or, arg_ife, arg_cmp, arg_cmp2, arg_ix, arg_sl, arg_call, arg_blt, arg_bm, arg_isi, arg_pop, arg_lc, arg_fnv, arg_callv, arg_xat, arg_isx, arg_mkx, opd_var, mov_var, arg_var, takeF])
    have hr : r.toNat < pool.length := by omega
    have hr2 : -9223372036854775808 ≤ r ∧ r < 9223372036854775808 := by omega
    have hf : found.length < sizeLine := by simp [sizeLine]; omega
    refine ⟨[some c', some (.fz gd), some (.fz (.int cn)), some (.fz d), some (.lst (pool.eraseIdx r.toNat)), some (.lst (found ++ [pool[r.toNat]]))], ?_, c', _, _, _, rfl, (pop_perm hr).trans pm, by simp; omega, B'.mono (by simp; omega)⟩
    simp [forF, pickS, evSs, evS.eq_1, evS.eq_2, evS.eq_3, evS.eq_5, evS.eq_6, evS.eq_7, evS.eq_8, evS.eq_9, evS.eq_12, evS.eq_13, evS.eq_15, evS.eq_16, evS.eq_17, evS_for, evI, rangeD, frzI, frzO, tgs, tgss, evE.eq_1, evE.eq_2, evE.eq_3, evE.eq_4, evE.eq_5, evE.eq_6, evE.eq_7, evE.eq_8, evE.eq_9, evE.eq_10, evE.eq_11, evE.eq_12, evE.eq_13, evE.eq_14, evE.eq_15, evE.eq_17, evE.eq_18, evE.eq_19, evE.eq_21, evE.eq_23, evE.eq_24, evE.eq_26, evE.eq_27, evO, evA, evD, evI, evAnd, evOr, evCs, callBy, agCells, lends, looks, Ag.cell, giveBack, bnO, Ev.bnd, tst, Od.d, Cell.d, ap1, ap2, apL, odsD, rdV, ixD, cmpD, truth, bltD, bmD, isiD, isTy, Ev.plain, asgC, asg, asgs, setC, setCs, updC, appC, isLst, isOwn, finO, itemsOf, seqOf, odLook, lookR, backR, wipeR, evPart, slD, recv, binD, opd_glo, opd_k, opd_tup, opd_lst, opd_bin, opd_neg, opd_not, opd_and, opd_or, opd_ife, opd_cmp, opd_cmp2, opd_ix, opd_sl, opd_call, opd_blt, opd_bm, opd_isi, opd_pop, opd_lc, opd_fnv, opd_callv, opd_xat, opd_isx, opd_mkx, mov_glo, mov_k, mov_tup, mov_lst, mov_bin, mov_neg, mov_not, mov_and, mov_or, mov_ife, mov_cmp, mov_cmp2, mov_ix, mov_sl, mov_call, mov_blt, mov_bm, mov_isi, mov_pop, mov_lc, mov_fnv, mov_callv, mov_xat, mov_isx, mov_mkx, arg_glo, arg_k, arg_tup, arg_lst, arg_bin, arg_neg, arg_not, arg_and, arg_or, arg_ife, arg_cmp, arg_cmp2, arg_ix, arg_sl, arg_call, arg_blt, arg_bm, arg_isi, arg_pop, arg_lc, arg_fnv, arg_callv, arg_xat, arg_isx, arg_mkx, opd_var, mov_var, arg_var, e, place_nat r0 r1, List.getElem?_eq_getElem hr, hr2.1, hr2.2, hf]
  refine ⟨found, pool, [some c', some (.fz gd), some (.fz (.int cn)), x, some (.lst pool), none], c', ?_, rfl, B.mono (by simp at ln; omega), pm⟩
  have hok : okR J = true := by simp [okR]; omega
  rcases hg with rfl | rfl <;> simp [pickF, pickB, evSs, evS.eq_1, evS.eq_2, evS.eq_3, evS.eq_5, evS.eq_6, evS.eq_7, evS.eq_8, evS.eq_9, evS.eq_12, evS.eq_13, evS.eq_15, evS.eq_16, evS.eq_17, evS_for, evI, rangeD, frzI, frzO, tgs, tgss, evE.eq_1, evE.eq_2, evE.eq_3, evE.eq_4, evE.eq_5, evE.eq_6, evE.eq_7, evE.eq_8, evE.eq_9, evE.eq_10, evE.eq_11, evE.eq_12, evE.eq_13, evE.eq_14, evE.eq_15, evE.eq_17, evE.eq_18, evE.eq_19, evE.eq_21, evE.eq_23, evE.eq_24, evE.eq_26, evE.eq_27, evO, evA, evD, evI, evAnd, evOr, evCs, callBy, agCells, lends, looks, Ag.cell, giveBack, bnO, Ev.bnd, tst, Od.d, Cell.d, ap1, ap2, apL, odsD, rdV, ixD, cmpD, truth, bltD, bmD, isiD, isTy, Ev.plain, asgC, asg, asgs, setC, setCs, updC, appC, isLst, isOwn, finO, itemsOf, seqOf, odLook, lookR, backR, wipeR, evPart, slD, recv, binD, opd_glo, opd_k, opd_tup, opd_lst, opd_bin, opd_neg, opd_not, opd_and, opd_or, opd_ife, opd_cmp, opd_cmp2, opd_ix, opd_sl, opd_call, opd_blt, opd_bm, opd_isi, opd_pop, opd_lc, opd_fnv, opd_callv, opd_xat, opd_isx, opd_mkx, mov_glo, mov_k, mov_tup, mov_lst, mov_bin, mov_neg, mov_not, mov_and, mov_or, mov_ife, mov_cmp, mov_cmp2, mov_ix, mov_sl, mov_call, mov_blt, mov_bm, mov_isi, mov_pop, mov_lc, mov_fnv, mov_callv, mov_xat, mov_isx, mov_mkx, arg_glo, arg_k, arg_tup, arg_lst, arg_bin, arg_neg, arg_not, arg_and, arg_or, arg_ife, arg_cmp, arg_cmp2, arg_ix, arg_sl, arg_call, arg_blt, arg_bm, arg_isi, arg_pop, arg_lc, arg_fnv, arg_callv, arg_xat, arg_isx, arg_mkx, opd_var, mov_var, arg_var, hJ, hok, e]
end Pl
end

section
set_option maxHeartbeats 0
namespace Pl
open PySem Ev PySem.W PyProof.Rows
section
variable {α β : Type}
theorem insL_perm (le : α → α → Bool) (x : α) : ∀ l : List α, (insL le x l).Perm (x :: l)
  | [] => List.Perm.refl _
  | y :: l => by
    unfold insL
    split
    · exact List.Perm.refl _
    · exact ((insL_perm le x l).cons y).trans (List.Perm.swap ..)
theorem isort_perm (le : α → α → Bool) : ∀ l : List α, (isort le l).Perm l
  | [] => List.Perm.refl _
  | x :: l => (insL_perm le x _).trans ((isort_perm le l).cons x)
theorem insL_map (le : β → β → Bool) (f : α → β) (x : α) : ∀ l : List α, insL le (f x) (l.map f) = (insL (fun a b => le (f a) (f b)) x l).map f
  | [] => rfl
  | y :: l => by
    simp only [List.map_cons, insL]
    split
    · rfl
    · rw [insL_map le f x l, List.map_cons]
theorem isort_map (le : β → β → Bool) (f : α → β) : ∀ l : List α, isort le (l.map f) = (isort (fun a b => le (f a) (f b)) l).map f
  | [] => rfl
  | x :: l => by simp only [List.map_cons, isort, isort_map le f l, insL_map]
theorem insL_pw {le : α → α → Bool} (tot : ∀ a b, le a b = false → le b a = true) (tr : ∀ a b c, le a b = true → le b c = true → le a c = true) (x : α) : ∀ l : List α, l.Pairwise (fun a b => le a b = true) → (insL le x l).Pairwise (fun a b => le a b = true)
  | [], _ => List.pairwise_singleton _ _
  | y :: l, h => by
    obtain ⟨h1, h2⟩ := List.pairwise_cons.mp h
    unfold insL
    cases e : le x y with
    | true =>
      rw [if_pos rfl]
      exact List.pairwise_cons.mpr ⟨fun z hz => by
        rcases List.mem_cons.mp hz with rfl | hz
        · exact e
        · exact tr _ _ _ e (h1 z hz), h⟩
    | false =>
      rw [if_neg Bool.false_ne_true]
      refine List.pairwise_cons.mpr ⟨fun z hz => ?_, insL_pw tot tr x l h2⟩
      rcases List.mem_cons.mp ((insL_perm le x l).subset hz) with rfl | hz
      · exact tot _ _ e
      · exact h1 z hz
theorem isort_pw {le : α → α → Bool} (tot : ∀ a b, le a b = false → le b a = true) (tr : ∀ a b c, le a b = true → le b c = true → le a c = true) : ∀ l : List α, (isort le l).Pairwise (fun a b => le a b = true)
  | [] => List.Pairwise.nil
  | x :: l => insL_pw tot tr x _ (isort_pw tot tr l)
/-- by keys: sorted, and strictly so where no two are equal -/
theorem isort_strict {key : α → List (Int ⊕ List Nat)} (inj : ∀ a b, key a = key b → a = b) {l : List α} (nd : l.Nodup) : (isort (fun a b => !lexLt itemOrd (key b) (key a)) l).Pairwise (fun a b => lexLt itemOrd (key a) (key b) = true) := by
  have pw := isort_pw (le := fun a b => !lexLt itemOrd (key b) (key a)) (fun a b h => by
      simp only [Bool.not_eq_false', Bool.not_eq_true'] at h ⊢
      cases e : lexLt itemOrd (key a) (key b) with
      | false => rfl
      | true => exact absurd (lex_trans _ _ _ h e) (by rw [lex_irrefl]; simp)) (fun a b c h1 h2 => by
      simp only [Bool.not_eq_true'] at h1 h2 ⊢
      cases e : lexLt itemOrd (key c) (key a) with
      | false => rfl
      | true => rcases lex_negTrans _ (key b) _ e with x | x
                · rw [x] at h2; cases h2
                · rw [x] at h1; cases h1) l
  have nd' : (isort (fun a b => !lexLt itemOrd (key b) (key a)) l).Nodup := (isort_perm _ l).nodup_iff.mpr nd
  refine (pw.and nd').imp fun {a b} h => ?_
  obtain ⟨h1, h2⟩ := h
  simp only [Bool.not_eq_true'] at h1
  cases e : lexLt itemOrd (key a) (key b) with
  | true => rfl
  | false => exact absurd (inj a b (lex_total _ _ e h1)) h2
end
theorem toPs_map {α : Type} {f : α → D} {P : α → PyData} (h : ∀ a, toP (f a) = some (P a)) : ∀ l : List α, toPs (l.map f) = some (l.map P)
  | [] => rfl
  | a :: l => by simp [toPs, h a, toPs_map h l]
/-- sorted, of alike things -/
theorem sort_of {α : Type} {f : α → D} {P : α → PyData} (h : ∀ a, toP (f a) = some (P a)) (hal : ∀ a b, alike (P a) (P b) = true) (ht : (∀ a, isTupP (f a) = true) ∨ ∀ a, noTup (f a) = true) {l : List α} (hs : ∀ a ∈ l, SeqAt.shaped (P a) = true) (hl : l.length ≤ sizeLine) :
    sortD (l.map f) = some ((isort (fun a b => !dataLt (P b) (P a)) l).map f) := by
  have e : (fun a b => leP (f a) (f b)) = fun a b => !dataLt (P b) (P a) := by
    funext a b
    simp only [leP, h]
  simp only [sortD, toPs_map h, List.length_map]
  rw [if_pos, isort_map, e]
  simp only [Bool.and_eq_true, Bool.or_eq_true, List.all_eq_true, decide_eq_true_eq]
  refine ⟨⟨⟨fun p hp q hq => ?_, ?_⟩, fun p hp => ?_⟩, hl⟩
  · obtain ⟨a, _, rfl⟩ := List.mem_map.mp hp
    obtain ⟨b, _, rfl⟩ := List.mem_map.mp hq
    exact hal a b
  · rcases ht with ht | ht
    · exact Or.inl fun d hd => by
        obtain ⟨a, _, rfl⟩ := List.mem_map.mp hd
        exact ht a
    · exact Or.inr fun d hd => by
        obtain ⟨a, _, rfl⟩ := List.mem_map.mp hd
        exact ht a
  · obtain ⟨a, ha, rfl⟩ := List.mem_map.mp hp
    exact hs a ha
abbrev tl (x : Str) : List Nat := x.cps.toList
/-- a row of texts that rises -/
def Rising (l : List Str) : Prop := l.Pairwise fun a b => tl a < tl b
theorem sort_strs {l : List Str} (nd : l.Nodup) (hs : ∀ x ∈ l, SeqAt.shaped (.str x) = true) (hl : l.length ≤ sizeLine) : ∃ l', sortD (l.map .str) = some (l'.map .str) ∧ l'.Perm l ∧ Rising l' := by
  refine ⟨_, sort_of (f := D.str) (P := PyData.str) (fun _ => rfl) (fun a b => by simp only [alike]) (Or.inr fun _ => rfl) hs hl, isort_perm _ _, ?_⟩
  refine (isort_strict (key := fun x => keyToks (.str x)) (fun a b e => ?_) nd).imp fun {a b} h => ?_
  · simp only [keyToks, List.cons.injEq, Sum.inr.injEq, and_true] at e
    exact str_of_cps e
  · have : dataLt (.str a) (.str b) = true := h
    rw [dataLt_str] at this
    exact of_decide_eq_true this
abbrev prD (p : Str × Str) : D := .tup [.str p.1, .str p.2]
abbrev prP (p : Str × Str) : PyData := .tuple [.str p.1, .str p.2]
theorem le_pair {p q : Str × Str} (h : dataLt (prP p) (prP q) = true) : leS [q.1, q.2] [p.1, p.2] = false := by
  have alk : ∀ a b : Str, alike (.str a) (.str b) = true := fun a b => by simp only [alike]
  rw [prP, prP, dataLt_pair (alk _ _) (alk _ _)] at h
  simp only [PyData.eqv, dataLt_str] at h
  by_cases e : p.1 = q.1
  · rw [if_pos (by simp [e])] at h
    by_cases e2 : p.2 = q.2
    · rw [if_pos (by simp [e2])] at h
      cases h
    · rw [if_neg (by simp [e2])] at h
      simp [leS, e, Ne.symm e2, of_decide_eq_true h]
  · rw [if_neg (by simp [e])] at h
    simp [leS, Ne.symm e, of_decide_eq_true h]
theorem sort_pairs {l : List (Str × Str)} (nd : l.Nodup) (hs : ∀ x ∈ l, SeqAt.shaped (prP x) = true) (hl : l.length ≤ sizeLine) : ∃ l' : List (Str × Str), sortD (l.map prD) = some (l'.map prD) ∧ l'.Perm l ∧ l'.Pairwise (fun p q => leS [q.1, q.2] [p.1, p.2] = false) := by
  refine ⟨_, sort_of (f := prD) (P := prP) (fun _ => rfl) (fun a b => by simp only [alike, alikeAll, Bool.and_self]) (Or.inl fun _ => rfl) hs hl, isort_perm _ _, ?_⟩
  refine (isort_strict (key := fun x => keyToks (prP x)) (fun a b e => ?_) nd).imp fun {a b} h => le_pair h
  simp only [prP, keyToks, keyToksAll, List.cons_append, List.nil_append, List.cons.injEq, Sum.inr.injEq, and_true, true_and] at e
  exact Prod.ext (str_of_cps e.1) (str_of_cps e.2)
end Pl
end

section
set_option maxHeartbeats 0
namespace Pl
open PySem Ev PySem.W PyProof.Rows TL
/-- shape of data, by depth -/
def Sh (k : Nat) (p : PyData) : Prop := p.canLay0 = true ∧ p.depth ≤ k
theorem Sh.shaped {k : Nat} {p : PyData} (h : Sh k p) (hk : k ≤ 64) : SeqAt.shaped p = true := by
  have := h.2
  simp only [SeqAt.shaped, h.1, Bool.true_and, decide_eq_true_eq]
  omega
theorem Sh.of {p : PyData} (h : SeqAt.shaped p = true) : Sh 64 p := ⟨SeqAt.canLay_of_shaped h, SeqAt.depth_of_shaped h⟩
theorem Sh.mono {k m : Nat} {p : PyData} (h : Sh k p) (l : k ≤ m) : Sh m p := ⟨h.1, Nat.le_trans h.2 l⟩
theorem sh_all {k : Nat} : ∀ {ps : List PyData}, (∀ p ∈ ps, Sh k p) → PyData.canLayAll0 ps = true ∧ PyData.depthAll ps ≤ k
  | [], _ => ⟨rfl, Nat.zero_le _⟩
  | p :: ps, h => by
    have h1 := h p (by simp)
    have h2 := sh_all (ps := ps) fun q hq => h q (by simp [hq])
    simp only [PyData.canLayAll0, PyData.depthAll, h1.1, h2.1, Bool.and_self, true_and]
    exact Nat.max_le.mpr ⟨h1.2, h2.2⟩
theorem sh_tup {k : Nat} {ps : List PyData} (h : ∀ p ∈ ps, Sh k p) : Sh (k + 1) (.tuple ps) := by
  have := sh_all h
  simp only [Sh, PyData.canLay0, PyData.depth, this.1, true_and]
  omega
theorem sh_lst {k : Nat} {ps : List PyData} (h : ∀ p ∈ ps, Sh k p) : Sh (k + 1) (.list ps) := by
  have := sh_all h
  simp only [Sh, PyData.canLay0, PyData.depth, this.1, true_and]
  omega
theorem sh_str {x : Str} (h : ∀ c ∈ tl x, c < 0x110000) : Sh 0 (.str x) := by
  refine ⟨?_, Nat.le_refl _⟩
  simp only [PyData.canLay0, PyData.strOk, ← Array.all_toList, List.all_eq_true, decide_eq_true_eq]
  exact h
theorem sh_str0 {x : Str} (h : SeqAt.shaped (.str x) = true) : Sh 0 (.str x) := ⟨SeqAt.canLay_of_shaped h, Nat.le_refl _⟩
theorem sh_signs {x : Str} (h : Sh 0 (.str x)) : ∀ c ∈ tl x, c < 0x110000 := by
  have := h.1
  simp only [PyData.canLay0, PyData.strOk, ← Array.all_toList, List.all_eq_true, decide_eq_true_eq] at this
  exact this
/-- plain data is shaped -/
theorem okD_sh : ∀ (k : Nat) (d : D), okD k d → ∃ p, toP d = some p ∧ Sh k p
  | 0, d, o => by cases d <;> simp [okD] at o
  | k + 1, d, o => by
    have all : ∀ ds : List D, (∀ d ∈ ds, okD k d) → ∃ ps, toPs ds = some ps ∧ ∀ p ∈ ps, Sh k p := fun ds => by
      induction ds with
      | nil => exact fun _ => ⟨[], rfl, by simp⟩
      | cons d ds ih =>
        intro h
        obtain ⟨p, e, s⟩ := okD_sh k d (h d (by simp))
        obtain ⟨ps, es, ss⟩ := ih fun x hx => h x (by simp [hx])
        refine ⟨p :: ps, by simp [toPs, e, es], fun q hq => ?_⟩
        rcases List.mem_cons.mp hq with rfl | hq
        · exact s
        · exact ss q hq
    cases d with
    | lst l =>
      obtain ⟨ps, es, ss⟩ := all l o.2
      exact ⟨.list ps, by simp [toP, es], sh_lst ss⟩
    | tup l =>
      obtain ⟨ps, es, ss⟩ := all l o.2
      exact ⟨.tuple ps, by simp [toP, es], sh_tup ss⟩
    | str s => exact ⟨.str s, rfl, (sh_str0 o).mono (Nat.zero_le _)⟩
    | non => exact ⟨.none, rfl, rfl, Nat.zero_le _⟩
    | bl b => exact ⟨.bool b, rfl, rfl, Nat.zero_le _⟩
    | int j => exact ⟨.int j, rfl, rfl, Nat.zero_le _⟩
    | dic _ => simp [okD] at o
    | ins _ _ => simp [okD] at o
    | exc _ _ => simp [okD] at o
    | fn _ => simp [okD] at o
theorem eqD_nil {k : Nat} {ds : List D} (o : okD k (.tup ds)) (hk : k ≤ 64) : eqD (.tup ds) (.tup []) = some ds.isEmpty := by
  obtain ⟨p, e, s⟩ := okD_sh k _ o
  have h0 : toP (.tup []) = some (.tuple []) := rfl
  have hs0 : SeqAt.shaped (.tuple []) = true := by decide
  simp only [eqD, e, h0, s.shaped hk, hs0, Bool.and_self, if_true]
  cases ds with
  | nil => cases e; rfl
  | cons d ds =>
    simp only [toP] at e
    cases h : toPs (d :: ds) with
    | none => rw [h] at e; cases e
    | some ps =>
      rw [h] at e; cases e
      cases ps with
      | nil => 
        simp only [toPs] at h
        split at h <;> simp at h
      | cons q qs => rfl
theorem eqD_strs {a b : Str} (ha : Sh 0 (.str a)) (hb : Sh 0 (.str b)) : eqD (.str a) (.str b) = some (a == b) := by
  simp only [eqD, toP, ha.shaped (by decide), hb.shaped (by decide), Bool.and_self, if_true, PyData.eqv]
theorem sh_dash : Sh 0 (.str "-") := sh_str0 (by decide +kernel)
theorem eqD_dash {t : Str} (hs : Sh 0 (.str t)) (h : ∃ c ∈ tl t, c ≠ 45) : eqD (.str t) (.str "-") = some false := by
  rw [eqD_strs hs sh_dash]
  obtain ⟨c, hc, hn⟩ := h
  have hd : tl ("-" : Str) = [45] := by decide +kernel
  have : t ≠ "-" := fun e => by
    subst e
    rw [hd] at hc
    exact hn (List.mem_singleton.mp hc)
  simp [this]

theorem mem_joinL {S : List Nat} {c : Nat} : ∀ {ps : List (List Nat)}, c ∈ joinL S ps → c ∈ S ∨ ∃ p ∈ ps, c ∈ p
  | [], h => by simp [joinL] at h
  | [p], h => Or.inr ⟨p, by simp, h⟩
  | p :: q :: r, h => by
    simp only [joinL, List.mem_append] at h
    rcases h with h | h | h
    · exact Or.inr ⟨p, by simp, h⟩
    · exact Or.inl h
    · rcases mem_joinL (ps := q :: r) h with h | ⟨x, hx, hc⟩
      · exact Or.inl h
      · exact Or.inr ⟨x, by simp [List.mem_cons.mp hx], hc⟩
theorem mem_joinL' {S : List Nat} {c : Nat} {p : List Nat} (hc : c ∈ p) : ∀ {ps : List (List Nat)}, p ∈ ps → c ∈ joinL S ps
  | [], h => by simp at h
  | [q], h => by rw [List.mem_singleton.mp h] at hc; exact hc
  | x :: y :: r, h => by
    simp only [joinL, List.mem_append]
    rcases List.mem_cons.mp h with rfl | h
    · exact Or.inl hc
    · exact Or.inr (Or.inr (mem_joinL' hc h))
theorem tl_tjoin (y : Str) (parts : List Str) : TL.tl (Txt.join y parts) = joinL (TL.tl y) (parts.map TL.tl) := by rw [join_eq, tl_join]
theorem mem_tjoin {y : Str} {parts : List Str} {c : Nat} (h : c ∈ TL.tl (Txt.join y parts)) : c ∈ TL.tl y ∨ ∃ p ∈ parts, c ∈ TL.tl p := by
  rw [tl_tjoin] at h
  rcases mem_joinL h with h | ⟨p, hp, hc⟩
  · exact Or.inl h
  · obtain ⟨x, hx, rfl⟩ := List.mem_map.mp hp
    exact Or.inr ⟨x, hx, hc⟩
theorem mem_tjoin' {y : Str} {parts : List Str} {c : Nat} {x : Str} (hx : x ∈ parts) (hc : c ∈ TL.tl x) : c ∈ TL.tl (Txt.join y parts) := by
  rw [tl_tjoin]
  exact mem_joinL' hc (List.mem_map_of_mem hx)
theorem join_two (y a b : Str) : Txt.join y [a, b] = a ++ y ++ b := by rw [join_eq]; rfl
theorem joinL_len {S : List Nat} : ∀ ps : List (List Nat), (joinL S ps).length ≤ (ps.map List.length).sum + S.length * ps.length
  | [] => by simp [joinL]
  | [p] => by simp [joinL]
  | p :: q :: r => by
    have := joinL_len (S := S) (q :: r)
    simp only [joinL, List.length_append, List.map_cons, List.sum_cons, List.length_cons] at this ⊢
    have e : S.length * (r.length + 1 + 1) = S.length * (r.length + 1) + S.length := by rw [Nat.mul_add, Nat.mul_one]
    omega
theorem sum_len {α : Type} {f : α → Nat} {b : Nat} : ∀ {l : List α}, (∀ x ∈ l, f x ≤ b) → (l.map f).sum ≤ b * l.length
  | [], _ => by simp
  | x :: l, h => by
    have h1 := h x (by simp)
    have h2 := sum_len (l := l) fun y hy => h y (by simp [hy])
    simp only [List.map_cons, List.sum_cons, List.length_cons, Nat.mul_add, Nat.mul_one]
    omega
theorem strsL_map : ∀ l : List Str, strsL (l.map .str) = some l
  | [] => rfl
  | x :: l => by simp [strsL, strsL_map l]
theorem intsL_map : ∀ l : List Int, intsL (l.map .int) = some l
  | [] => rfl
  | x :: l => by simp [intsL, intsL_map l]
theorem boolsL_map : ∀ l : List Bool, boolsL (l.map .bl) = some l
  | [] => rfl
  | x :: l => by simp [boolsL, boolsL_map l]
theorem tjoin_len {y : Str} {parts : List Str} {b : Nat} (h : ∀ x ∈ parts, x.length ≤ b) : (Txt.join y parts).length ≤ b * parts.length + y.length * parts.length := by
  rw [len_tl, tl_tjoin]
  refine Nat.le_trans (joinL_len _) ?_
  rw [List.map_map, List.length_map, ← len_tl]
  have := sum_len (f := List.length ∘ TL.tl) (b := b) (l := parts) fun x hx => by
    have := h x hx
    rw [len_tl] at this
    exact this
  omega
/-- join, with bounds -/
theorem bmD_join {y : Str} {parts : List Str} {b : Nat} (h : ∀ x ∈ parts, x.length ≤ b) (hb : (b + y.length) * parts.length ≤ 16777216) {s : D} (hs : s = .tup (parts.map .str) ∨ s = .lst (parts.map .str)) : bmD .join (.str y) [s] = some (.fz (.str (Txt.join y parts))) := by
  have := sum_len h
  have e : (b + y.length) * parts.length = b * parts.length + y.length * parts.length := Nat.add_mul ..
  rcases hs with rfl | rfl <;> simp only [bmD, seqOf, strsL_map] <;> rw [if_pos (by omega)]
theorem bmD_split {x y : Str} {parts : List Str} (hy : (y.length == 0) = false) (hx : x.length + 2 ≤ sizeLine) (h : Txt.split x y = parts) : bmD .split (.str x) [.str y] = some (.lst (parts.map .str)) := by
  simp only [bmD, hy, hx, and_self, if_true, h]

def risingB : Ss := (.cons (.ret (.blt .all (.cons false (.lc (.cmp .lt (.var 1) (.var 2)) [1, 2] (.tup [(.name 1), (.name 2)]) (.zip (.cons false (.var 0) (.cons false (.sl (.var 0) true (.k (.int 1)) false .stk false) .nil))) .nil) .nil))) .nil)
def risingF : Fn := ⟨3, 1, [], [], risingB⟩
theorem cut_one {α : Type} (l : List α) : cut l (some 1) none = l.drop 1 := by
  have h0 : HT.sIx l.length 0 (some (1 : Int)) = min 1 l.length := HT.sIx_nat _ _ 1
  simp only [cut, h0, HT.sIx_none]
  rw [List.take_of_length_le (by simp)]
  cases l with
  | nil => rfl
  | cons a l => simp
theorem zip_rising : ∀ {l : List Str}, Rising l → ∀ d ∈ zipL (l.map .str) ((l.map .str).drop 1), ∃ a b : Str, d = .tup [.str a, .str b] ∧ tl a < tl b
  | [], _, d, h => by simp [zipL] at h
  | [a], _, d, h => by simp [zipL] at h
  | a :: b :: l, R, d, h => by
    obtain ⟨h1, h2⟩ := List.pairwise_cons.mp R
    simp only [List.map_cons, List.drop_succ_cons, List.drop_zero, zipL, List.mem_cons] at h
    rcases h with rfl | h
    · exact ⟨a, b, rfl, h1 b (by simp)⟩
    · exact zip_rising h2 d (by simpa using h)
theorem zipL_len : ∀ a b : List D, (zipL a b).length ≤ a.length
  | [], _ => by simp [zipL]
  | _ :: _, [] => by simp [zipL]
  | x :: a, y :: b => by
    have := zipL_len a b
    simp only [zipL, List.length_cons]
    omega
theorem fm_rep : ∀ l : List D, (l.filterMap fun _ => some (D.bl true)) = List.replicate l.length (D.bl true)
  | [] => rfl
  | d :: l => by simp only [List.filterMap_cons, List.length_cons, List.replicate_succ, fm_rep l]
theorem boolsRep : ∀ m : Nat, boolsL (List.replicate m (D.bl true)) = some (List.replicate m true)
  | 0 => rfl
  | m + 1 => by simp [List.replicate_succ, boolsL, boolsRep m]
theorem allRep (m : Nat) : (List.replicate m true).all id = true := by simp
theorem opd_lc' {e own t it cs} {r : Option (R Cell)} {ρ : Rho} : opd (.lc e own t it cs) r ρ = Ev.bnd r fun c ρ => some (.ok (.c c) ρ) := rfl
theorem rising_ok {g : G} {n k i : Nat} (h : g.fn i = some risingF) {l : List Str} (hR : Rising l) (hl : l.length ≤ 1000000) : ∃ ρ, evCall g n (k + 1) i [.fz (.tup (l.map .str))] = some (.ok (.fz (.bl true)) ρ) := by
  rw [call_eq h rfl (show 1 ≤ 3 by decide)]
  have e := lc_eval (g := g) (cl := evCall g n k) (e := .cmp .lt (.var 1) (.var 2)) (own := [1, 2]) (t := .tup [(.name 1), (.name 2)]) (it := .zip (.cons false (.var 0) (.cons false (.sl (.var 0) true (.k (.int 1)) false .stk false) .nil))) (cs := .nil)
    (ρ := [some (.fz (.tup (l.map .str))), none, none]) (ρ1 := [some (.fz (.tup (l.map .str))), none, none]) (ds := zipL (l.map .str) ((l.map .str).drop 1)) (ls := []) (v := fun _ => some (.bl true)) (by simp [evSs, evS.eq_1, evS.eq_2, evS.eq_3, evS.eq_5, evS.eq_6, evS.eq_7, evS.eq_8, evS.eq_9, evS.eq_12, evS.eq_13, evS.eq_15, evS.eq_16, evS.eq_17, evS_for, evI, rangeD, frzI, frzO, tgs, tgss, evE.eq_1, evE.eq_2, evE.eq_3, evE.eq_4, evE.eq_5, evE.eq_6, evE.eq_7, evE.eq_8, evE.eq_9, evE.eq_10, evE.eq_11, evE.eq_12, evE.eq_13, evE.eq_14, evE.eq_15, evE.eq_17, evE.eq_18, evE.eq_19, evE.eq_21, evE.eq_23, evE.eq_24, evE.eq_26, evE.eq_27, evO, evA, evD, evI, evAnd, evOr, evCs, callBy, agCells, lends, looks, Ag.cell, giveBack, bnO, Ev.bnd, tst, Od.d, Cell.d, ap1, ap2, apL, odsD, rdV, ixD, cmpD, truth, bltD, bmD, isiD, isTy, Ev.plain, asgC, asg, asgs, setC, setCs, updC, appC, isLst, isOwn, finO, itemsOf, seqOf, odLook, lookR, backR, wipeR, evPart, slD, recv, binD, opd_glo, opd_k, opd_tup, opd_lst, opd_bin, opd_neg, opd_not, opd_and, opd_or, opd_ife, opd_cmp, opd_cmp2, opd_ix, opd_sl, opd_call, opd_blt, opd_bm, opd_isi, opd_pop, opd_lc, opd_fnv, opd_callv, opd_xat, opd_isx, opd_mkx, mov_glo, mov_k, mov_tup, mov_lst, mov_bin, mov_neg, mov_not, mov_and, mov_or, mov_ife, mov_cmp, mov_cmp2, mov_ix, mov_sl, mov_call, mov_blt, mov_bm, mov_isi, mov_pop, mov_lc, mov_fnv, mov_callv, mov_xat, mov_isx, mov_mkx, arg_glo, arg_k, arg_tup, arg_lst, arg_bin, arg_neg, arg_not, arg_and, arg_or, arg_ife, arg_cmp, arg_cmp2, arg_ix, arg_sl, arg_call, arg_blt, arg_bm, arg_isi, arg_pop, arg_lc, arg_fnv, arg_callv, arg_xat, arg_isx, arg_mkx, opd_var, mov_var, arg_var, zipD, cut_one]) (by have := zipL_len (l.map D.str) ((l.map D.str).drop 1); simp only [List.length_map, sizeLine] at this ⊢; omega) rfl fun d hd => by
      obtain ⟨a, b, rfl, hab⟩ := zip_rising hR d hd
      exact ⟨[some (.fz (.tup (l.map .str))), some (.fz (.str a)), some (.fz (.str b))], by simp [lcF, evSs, evS.eq_1, evS.eq_2, evS.eq_3, evS.eq_5, evS.eq_6, evS.eq_7, evS.eq_8, evS.eq_9, evS.eq_12, evS.eq_13, evS.eq_15, evS.eq_16, evS.eq_17, evS_for, evI, rangeD, frzI, frzO, tgs, tgss, evE.eq_1, evE.eq_2, evE.eq_3, evE.eq_4, evE.eq_5, evE.eq_6, evE.eq_7, evE.eq_8, evE.eq_9, evE.eq_10, evE.eq_11, evE.eq_12, evE.eq_13, evE.eq_14, evE.eq_15, evE.eq_17, evE.eq_18, evE.eq_19, evE.eq_21, evE.eq_23, evE.eq_24, evE.eq_26, evE.eq_27, evO, evA, evD, evI, evAnd, evOr, evCs, callBy, agCells, lends, looks, Ag.cell, giveBack, bnO, Ev.bnd, tst, Od.d, Cell.d, ap1, ap2, apL, odsD, rdV, ixD, cmpD, truth, bltD, bmD, isiD, isTy, Ev.plain, asgC, asg, asgs, setC, setCs, updC, appC, isLst, isOwn, finO, itemsOf, seqOf, odLook, lookR, backR, wipeR, evPart, slD, recv, binD, opd_glo, opd_k, opd_tup, opd_lst, opd_bin, opd_neg, opd_not, opd_and, opd_or, opd_ife, opd_cmp, opd_cmp2, opd_ix, opd_sl, opd_call, opd_blt, opd_bm, opd_isi, opd_pop, opd_lc, opd_fnv, opd_callv, opd_xat, opd_isx, opd_mkx, mov_glo, mov_k, mov_tup, mov_lst, mov_bin, mov_neg, mov_not, mov_and, mov_or, mov_ife, mov_cmp, mov_cmp2, mov_ix, mov_sl, mov_call, mov_blt, mov_bm, mov_isi, mov_pop, mov_lc, mov_fnv, mov_callv, mov_xat, mov_isx, mov_mkx, arg_glo, arg_k, arg_tup, arg_lst, arg_bin, arg_neg, arg_not, arg_and, arg_or, arg_ife, arg_cmp, arg_cmp2, arg_ix, arg_sl, arg_call, arg_blt, arg_bm, arg_isi, arg_pop, arg_lc, arg_fnv, arg_callv, arg_xat, arg_isx, arg_mkx, opd_var, mov_var, arg_var, ltD, hab], rfl⟩
  rw [fm_rep] at e
  refine ⟨[some (.fz (.tup (l.map .str))), none, none], ?_⟩
  simp [risingF, risingB, evSs, evS.eq_1, evS.eq_2, evS.eq_3, evS.eq_5, evS.eq_6, evS.eq_7, evS.eq_8, evS.eq_9, evS.eq_12, evS.eq_13, evS.eq_15, evS.eq_16, evS.eq_17, evS_for, evI, rangeD, frzI, frzO, tgs, tgss, evE.eq_1, evE.eq_2, evE.eq_3, evE.eq_4, evE.eq_5, evE.eq_6, evE.eq_7, evE.eq_8, evE.eq_9, evE.eq_10, evE.eq_11, evE.eq_12, evE.eq_13, evE.eq_14, evE.eq_15, evE.eq_17, evE.eq_18, evE.eq_19, evE.eq_21, evE.eq_23, evE.eq_24, evE.eq_26, evE.eq_27, evO, evA, evD, evI, evAnd, evOr, evCs, callBy, agCells, lends, looks, Ag.cell, giveBack, bnO, Ev.bnd, tst, Od.d, Cell.d, ap1, ap2, apL, odsD, rdV, ixD, cmpD, truth, bltD, bmD, isiD, isTy, Ev.plain, asgC, asg, asgs, setC, setCs, updC, appC, isLst, isOwn, finO, itemsOf, seqOf, odLook, lookR, backR, wipeR, evPart, slD, recv, binD, opd_glo, opd_k, opd_tup, opd_lst, opd_bin, opd_neg, opd_not, opd_and, opd_or, opd_ife, opd_cmp, opd_cmp2, opd_ix, opd_sl, opd_call, opd_blt, opd_bm, opd_isi, opd_pop, opd_lc, opd_fnv, opd_callv, opd_xat, opd_isx, opd_mkx, mov_glo, mov_k, mov_tup, mov_lst, mov_bin, mov_neg, mov_not, mov_and, mov_or, mov_ife, mov_cmp, mov_cmp2, mov_ix, mov_sl, mov_call, mov_blt, mov_bm, mov_isi, mov_pop, mov_lc, mov_fnv, mov_callv, mov_xat, mov_isx, mov_mkx, arg_glo, arg_k, arg_tup, arg_lst, arg_bin, arg_neg, arg_not, arg_and, arg_or, arg_ife, arg_cmp, arg_cmp2, arg_ix, arg_sl, arg_call, arg_blt, arg_bm, arg_isi, arg_pop, arg_lc, arg_fnv, arg_callv, arg_xat, arg_isx, arg_mkx, opd_var, mov_var, arg_var, opd_lc', e, boolsRep]

def lstN : Nat → D → D
  | k + 1, .lst ds => .lst (ds.map (lstN k))
  | k + 1, .tup ds => .lst (ds.map (lstN k))
  | _, d => d
def listsB (i : Nat) : Ss := (.cons (.ret (.ife (.isi (.var 0) [.list, .tuple] false) (.lc (.call i (.cons false (.var 1) .nil)) [1] (.name 1) (.of (.var 0)) .nil) (.var 0))) .nil)
def listsF (i : Nat) : Fn := ⟨2, 1, [], [], listsB i⟩
theorem fm_some {α β : Type} (f : α → β) : ∀ l : List α, (l.filterMap fun x => some (f x)) = l.map f
  | [] => rfl
  | d :: l => by simp
theorem lists_ok {g : G} {n i : Nat} (h : g.fn i = some (listsF i)) : ∀ (k : Nat) (d : D), okD k d → ∃ ρ c, evCall g n k i [.fz d] = some (.ok c ρ) ∧ c.d = lstN k d
  | 0, d, o => by cases d <;> simp [okD] at o
  | k + 1, d, o => by
    rw [call_eq h rfl (show 1 ≤ 2 by decide)]
    have seq : ∀ (l : List D) (d : D), itemsOf d = some l → l.length ≤ sizeLine → (∀ x ∈ l, okD k x) → evE g (evCall g n k) (.lc (.call i (.cons false (.var 1) .nil)) [1] (.name 1) (.of (.var 0)) .nil) [some (.fz d), none] = some (.ok (.lst (l.map (lstN k))) [some (.fz d), none]) := fun l d hi hl ho => by
      have e := lc_eval (g := g) (cl := evCall g n k) (e := .call i (.cons false (.var 1) .nil)) (own := [1]) (t := .name 1) (it := .of (.var 0)) (cs := .nil) (ρ := [some (.fz d), none]) (ρ1 := [some (.fz d), none]) (ds := l) (ls := []) (v := fun x => some (lstN k x)) (by simp [evSs, evS.eq_1, evS.eq_2, evS.eq_3, evS.eq_5, evS.eq_6, evS.eq_7, evS.eq_8, evS.eq_9, evS.eq_12, evS.eq_13, evS.eq_15, evS.eq_16, evS.eq_17, evS_for, evI, rangeD, frzI, frzO, tgs, tgss, evE.eq_1, evE.eq_2, evE.eq_3, evE.eq_4, evE.eq_5, evE.eq_6, evE.eq_7, evE.eq_8, evE.eq_9, evE.eq_10, evE.eq_11, evE.eq_12, evE.eq_13, evE.eq_14, evE.eq_15, evE.eq_17, evE.eq_18, evE.eq_19, evE.eq_21, evE.eq_23, evE.eq_24, evE.eq_26, evE.eq_27, evO, evA, evD, evI, evAnd, evOr, evCs, callBy, agCells, lends, looks, Ag.cell, giveBack, bnO, Ev.bnd, tst, Od.d, Cell.d, ap1, ap2, apL, odsD, rdV, ixD, cmpD, truth, bltD, bmD, isiD, isTy, Ev.plain, asgC, asg, asgs, setC, setCs, updC, appC, isLst, isOwn, finO, itemsOf, seqOf, odLook, lookR, backR, wipeR, evPart, slD, recv, binD, opd_glo, opd_k, opd_tup, opd_lst, opd_bin, opd_neg, opd_not, opd_and, opd_or, opd_ife, opd_cmp, opd_cmp2, opd_ix, opd_sl, opd_call, opd_blt, opd_bm, opd_isi, opd_pop, opd_lc, opd_fnv, opd_callv, opd_xat, opd_isx, opd_mkx, mov_glo, mov_k, mov_tup, mov_lst, mov_bin, mov_neg, mov_not, mov_and, mov_or, mov_ife, mov_cmp, mov_cmp2, mov_ix, mov_sl, mov_call, mov_blt, mov_bm, mov_isi, mov_pop, mov_lc, mov_fnv, mov_callv, mov_xat, mov_isx, mov_mkx, arg_glo, arg_k, arg_tup, arg_lst, arg_bin, arg_neg, arg_not, arg_and, arg_or, arg_ife, arg_cmp, arg_cmp2, arg_ix, arg_sl, arg_call, arg_blt, arg_bm, arg_isi, arg_pop, arg_lc, arg_fnv, arg_callv, arg_xat, arg_isx, arg_mkx, opd_var, mov_var, arg_var, -itemsOf, hi]) hl rfl fun x hx => by
        obtain ⟨ρ, c, er, ec⟩ := lists_ok (n := n) h k x (ho x hx)
        exact ⟨[some (.fz d), some (.fz x)], by simp [lcF, evE.eq_16, evE.eq_22, evSs, evS.eq_1, evS.eq_2, evS.eq_3, evS.eq_5, evS.eq_6, evS.eq_7, evS.eq_8, evS.eq_9, evS.eq_12, evS.eq_13, evS.eq_15, evS.eq_16, evS.eq_17, evS_for, evI, rangeD, frzI, frzO, tgs, tgss, evE.eq_1, evE.eq_2, evE.eq_3, evE.eq_4, evE.eq_5, evE.eq_6, evE.eq_7, evE.eq_8, evE.eq_9, evE.eq_10, evE.eq_11, evE.eq_12, evE.eq_13, evE.eq_14, evE.eq_15, evE.eq_17, evE.eq_18, evE.eq_19, evE.eq_21, evE.eq_23, evE.eq_24, evE.eq_26, evE.eq_27, evO, evA, evD, evI, evAnd, evOr, evCs, callBy, agCells, lends, looks, Ag.cell, giveBack, bnO, Ev.bnd, tst, Od.d, Cell.d, ap1, ap2, apL, odsD, rdV, ixD, cmpD, truth, bltD, bmD, isiD, isTy, Ev.plain, asgC, asg, asgs, setC, setCs, updC, appC, isLst, isOwn, finO, itemsOf, seqOf, odLook, lookR, backR, wipeR, evPart, slD, recv, binD, opd_glo, opd_k, opd_tup, opd_lst, opd_bin, opd_neg, opd_not, opd_and, opd_or, opd_ife, opd_cmp, opd_cmp2, opd_ix, opd_sl, opd_call, opd_blt, opd_bm, opd_isi, opd_pop, opd_lc, opd_fnv, opd_callv, opd_xat, opd_isx, opd_mkx, mov_glo, mov_k, mov_tup, mov_lst, mov_bin, mov_neg, mov_not, mov_and, mov_or, mov_ife, mov_cmp, mov_cmp2, mov_ix, mov_sl, mov_call, mov_blt, mov_bm, mov_isi, mov_pop, mov_lc, mov_fnv, mov_callv, mov_xat, mov_isx, mov_mkx, arg_glo, arg_k, arg_tup, arg_lst, arg_bin, arg_neg, arg_not, arg_and, arg_or, arg_ife, arg_cmp, arg_cmp2, arg_ix, arg_sl, arg_call, arg_blt, arg_bm, arg_isi, arg_pop, arg_lc, arg_fnv, arg_callv, arg_xat, arg_isx, arg_mkx, opd_var, mov_var, arg_var, h, listsF, er]; exact ec, rfl⟩
      rw [e, fm_some]
    cases d with
    | lst l => exact ⟨[some (.fz (.lst l)), none], .lst (l.map (lstN k)), by simp [listsF, listsB, evSs, evS.eq_1, evS.eq_2, evS.eq_3, evS.eq_5, evS.eq_6, evS.eq_7, evS.eq_8, evS.eq_9, evS.eq_12, evS.eq_13, evS.eq_15, evS.eq_16, evS.eq_17, evS_for, evI, rangeD, frzI, frzO, tgs, tgss, evE.eq_1, evE.eq_2, evE.eq_3, evE.eq_4, evE.eq_5, evE.eq_6, evE.eq_7, evE.eq_8, evE.eq_9, evE.eq_10, evE.eq_11, evE.eq_12, evE.eq_13, evE.eq_14, evE.eq_15, evE.eq_17, evE.eq_18, evE.eq_19, evE.eq_21, evE.eq_23, evE.eq_24, evE.eq_26, evE.eq_27, evO, evA, evD, evI, evAnd, evOr, evCs, callBy, agCells, lends, looks, Ag.cell, giveBack, bnO, Ev.bnd, tst, Od.d, Cell.d, ap1, ap2, apL, odsD, rdV, ixD, cmpD, truth, bltD, bmD, isiD, isTy, Ev.plain, asgC, asg, asgs, setC, setCs, updC, appC, isLst, isOwn, finO, itemsOf, seqOf, odLook, lookR, backR, wipeR, evPart, slD, recv, binD, opd_glo, opd_k, opd_tup, opd_lst, opd_bin, opd_neg, opd_not, opd_and, opd_or, opd_ife, opd_cmp, opd_cmp2, opd_ix, opd_sl, opd_call, opd_blt, opd_bm, opd_isi, opd_pop, opd_lc, opd_fnv, opd_callv, opd_xat, opd_isx, opd_mkx, mov_glo, mov_k, mov_tup, mov_lst, mov_bin, mov_neg, mov_not, mov_and, mov_or, mov_ife, mov_cmp, mov_cmp2, mov_ix, mov_sl, mov_call, mov_blt, mov_bm, mov_isi, mov_pop, mov_lc, mov_fnv, mov_callv, mov_xat, mov_isx, mov_mkx, arg_glo, arg_k, arg_tup, arg_lst, arg_bin, arg_neg, arg_not, arg_and, arg_or, arg_ife, arg_cmp, arg_cmp2, arg_ix, arg_sl, arg_call, arg_blt, arg_bm, arg_isi, arg_pop, arg_lc, arg_fnv, arg_callv, arg_xat, arg_isx, arg_mkx, opd_var, mov_var, arg_var, seq l (.lst l) rfl o.1 o.2], rfl⟩
    | tup l => exact ⟨[some (.fz (.tup l)), none], .lst (l.map (lstN k)), by simp [listsF, listsB, evSs, evS.eq_1, evS.eq_2, evS.eq_3, evS.eq_5, evS.eq_6, evS.eq_7, evS.eq_8, evS.eq_9, evS.eq_12, evS.eq_13, evS.eq_15, evS.eq_16, evS.eq_17, evS_for, evI, rangeD, frzI, frzO, tgs, tgss, evE.eq_1, evE.eq_2, evE.eq_3, evE.eq_4, evE.eq_5, evE.eq_6, evE.eq_7, evE.eq_8, evE.eq_9, evE.eq_10, evE.eq_11, evE.eq_12, evE.eq_13, evE.eq_14, evE.eq_15, evE.eq_17, evE.eq_18, evE.eq_19, evE.eq_21, evE.eq_23, evE.eq_24, evE.eq_26, evE.eq_27, evO, evA, evD, evI, evAnd, evOr, evCs, callBy, agCells, lends, looks, Ag.cell, giveBack, bnO, Ev.bnd, tst, Od.d, Cell.d, ap1, ap2, apL, odsD, rdV, ixD, cmpD, truth, bltD, bmD, isiD, isTy, Ev.plain, asgC, asg, asgs, setC, setCs, updC, appC, isLst, isOwn, finO, itemsOf, seqOf, odLook, lookR, backR, wipeR, evPart, slD, recv, binD, opd_glo, opd_k, opd_tup, opd_lst, opd_bin, opd_neg, opd_not, opd_and, opd_or, opd_ife, opd_cmp, opd_cmp2, opd_ix, opd_sl, opd_call, opd_blt, opd_bm, opd_isi, opd_pop, opd_lc, opd_fnv, opd_callv, opd_xat, opd_isx, opd_mkx, mov_glo, mov_k, mov_tup, mov_lst, mov_bin, mov_neg, mov_not, mov_and, mov_or, mov_ife, mov_cmp, mov_cmp2, mov_ix, mov_sl, mov_call, mov_blt, mov_bm, mov_isi, mov_pop, mov_lc, mov_fnv, mov_callv, mov_xat, mov_isx, mov_mkx, arg_glo, arg_k, arg_tup, arg_lst, arg_bin, arg_neg, arg_not, arg_and, arg_or, arg_ife, arg_cmp, arg_cmp2, arg_ix, arg_sl, arg_call, arg_blt, arg_bm, arg_isi, arg_pop, arg_lc, arg_fnv, arg_callv, arg_xat, arg_isx, arg_mkx, opd_var, mov_var, arg_var, seq l (.tup l) rfl o.1 o.2], rfl⟩
    | str s => exact ⟨_, .fz (.str s), by simp [listsF, listsB, evSs, evS.eq_1, evS.eq_2, evS.eq_3, evS.eq_5, evS.eq_6, evS.eq_7, evS.eq_8, evS.eq_9, evS.eq_12, evS.eq_13, evS.eq_15, evS.eq_16, evS.eq_17, evS_for, evI, rangeD, frzI, frzO, tgs, tgss, evE.eq_1, evE.eq_2, evE.eq_3, evE.eq_4, evE.eq_5, evE.eq_6, evE.eq_7, evE.eq_8, evE.eq_9, evE.eq_10, evE.eq_11, evE.eq_12, evE.eq_13, evE.eq_14, evE.eq_15, evE.eq_17, evE.eq_18, evE.eq_19, evE.eq_21, evE.eq_23, evE.eq_24, evE.eq_26, evE.eq_27, evO, evA, evD, evI, evAnd, evOr, evCs, callBy, agCells, lends, looks, Ag.cell, giveBack, bnO, Ev.bnd, tst, Od.d, Cell.d, ap1, ap2, apL, odsD, rdV, ixD, cmpD, truth, bltD, bmD, isiD, isTy, Ev.plain, asgC, asg, asgs, setC, setCs, updC, appC, isLst, isOwn, finO, itemsOf, seqOf, odLook, lookR, backR, wipeR, evPart, slD, recv, binD, opd_glo, opd_k, opd_tup, opd_lst, opd_bin, opd_neg, opd_not, opd_and, opd_or, opd_ife, opd_cmp, opd_cmp2, opd_ix, opd_sl, opd_call, opd_blt, opd_bm, opd_isi, opd_pop, opd_lc, opd_fnv, opd_callv, opd_xat, opd_isx, opd_mkx, mov_glo, mov_k, mov_tup, mov_lst, mov_bin, mov_neg, mov_not, mov_and, mov_or, mov_ife, mov_cmp, mov_cmp2, mov_ix, mov_sl, mov_call, mov_blt, mov_bm, mov_isi, mov_pop, mov_lc, mov_fnv, mov_callv, mov_xat, mov_isx, mov_mkx, arg_glo, arg_k, arg_tup, arg_lst, arg_bin, arg_neg, arg_not, arg_and, arg_or, arg_ife, arg_cmp, arg_cmp2, arg_ix, arg_sl, arg_call, arg_blt, arg_bm, arg_isi, arg_pop, arg_lc, arg_fnv, arg_callv, arg_xat, arg_isx, arg_mkx, opd_var, mov_var, arg_var]; rfl, rfl⟩
    | non => exact ⟨_, .fz .non, by simp [listsF, listsB, evSs, evS.eq_1, evS.eq_2, evS.eq_3, evS.eq_5, evS.eq_6, evS.eq_7, evS.eq_8, evS.eq_9, evS.eq_12, evS.eq_13, evS.eq_15, evS.eq_16, evS.eq_17, evS_for, evI, rangeD, frzI, frzO, tgs, tgss, evE.eq_1, evE.eq_2, evE.eq_3, evE.eq_4, evE.eq_5, evE.eq_6, evE.eq_7, evE.eq_8, evE.eq_9, evE.eq_10, evE.eq_11, evE.eq_12, evE.eq_13, evE.eq_14, evE.eq_15, evE.eq_17, evE.eq_18, evE.eq_19, evE.eq_21, evE.eq_23, evE.eq_24, evE.eq_26, evE.eq_27, evO, evA, evD, evI, evAnd, evOr, evCs, callBy, agCells, lends, looks, Ag.cell, giveBack, bnO, Ev.bnd, tst, Od.d, Cell.d, ap1, ap2, apL, odsD, rdV, ixD, cmpD, truth, bltD, bmD, isiD, isTy, Ev.plain, asgC, asg, asgs, setC, setCs, updC, appC, isLst, isOwn, finO, itemsOf, seqOf, odLook, lookR, backR, wipeR, evPart, slD, recv, binD, opd_glo, opd_k, opd_tup, opd_lst, opd_bin, opd_neg, opd_not, opd_and, opd_or, opd_ife, opd_cmp, opd_cmp2, opd_ix, opd_sl, opd_call, opd_blt, opd_bm, opd_isi, opd_pop, opd_lc, opd_fnv, opd_callv, opd_xat, opd_isx, opd_mkx, mov_glo, mov_k, mov_tup, mov_lst, mov_bin, mov_neg, mov_not, mov_and, mov_or, mov_ife, mov_cmp, mov_cmp2, mov_ix, mov_sl, mov_call, mov_blt, mov_bm, mov_isi, mov_pop, mov_lc, mov_fnv, mov_callv, mov_xat, mov_isx, mov_mkx, arg_glo, arg_k, arg_tup, arg_lst, arg_bin, arg_neg, arg_not, arg_and, arg_or, arg_ife, arg_cmp, arg_cmp2, arg_ix, arg_sl, arg_call, arg_blt, arg_bm, arg_isi, arg_pop, arg_lc, arg_fnv, arg_callv, arg_xat, arg_isx, arg_mkx, opd_var, mov_var, arg_var]; rfl, rfl⟩
    | bl b => exact ⟨_, .fz (.bl b), by simp [listsF, listsB, evSs, evS.eq_1, evS.eq_2, evS.eq_3, evS.eq_5, evS.eq_6, evS.eq_7, evS.eq_8, evS.eq_9, evS.eq_12, evS.eq_13, evS.eq_15, evS.eq_16, evS.eq_17, evS_for, evI, rangeD, frzI, frzO, tgs, tgss, evE.eq_1, evE.eq_2, evE.eq_3, evE.eq_4, evE.eq_5, evE.eq_6, evE.eq_7, evE.eq_8, evE.eq_9, evE.eq_10, evE.eq_11, evE.eq_12, evE.eq_13, evE.eq_14, evE.eq_15, evE.eq_17, evE.eq_18, evE.eq_19, evE.eq_21, evE.eq_23, evE.eq_24, evE.eq_26, evE.eq_27, evO, evA, evD, evI, evAnd, evOr, evCs, callBy, agCells, lends, looks, Ag.cell, giveBack, bnO, Ev.bnd, tst, Od.d, Cell.d, ap1, ap2, apL, odsD, rdV, ixD, cmpD, truth, bltD, bmD, isiD, isTy, Ev.plain, asgC, asg, asgs, setC, setCs, updC, appC, isLst, isOwn, finO, itemsOf, seqOf, odLook, lookR, backR, wipeR, evPart, slD, recv, binD, opd_glo, opd_k, opd_tup, opd_lst, opd_bin, opd_neg, opd_not, opd_and, opd_or, opd_ife, opd_cmp, opd_cmp2, opd_ix, opd_sl, opd_call, opd_blt, opd_bm, opd_isi, opd_pop, opd_lc, opd_fnv, opd_callv, opd_xat, opd_isx, opd_mkx, mov_glo, mov_k, mov_tup, mov_lst, mov_bin, mov_neg, mov_not, mov_and, mov_or, mov_ife, mov_cmp, mov_cmp2, mov_ix, mov_sl, mov_call, mov_blt, mov_bm, mov_isi, mov_pop, mov_lc, mov_fnv, mov_callv, mov_xat, mov_isx, mov_mkx, arg_glo, arg_k, arg_tup, arg_lst, arg_bin, arg_neg, arg_not, arg_and, arg_or, arg_ife, arg_cmp, arg_cmp2, arg_ix, arg_sl, arg_call, arg_blt, arg_bm, arg_isi, arg_pop, arg_lc, arg_fnv, arg_callv, arg_xat, arg_isx, arg_mkx, opd_var, mov_var, arg_var]; rfl, rfl⟩
    | int j => exact ⟨_, .fz (.int j), by simp [listsF, listsB, evSs, evS.eq_1, evS.eq_2, evS.eq_3, evS.eq_5, evS.eq_6, evS.eq_7, evS.eq_8, evS.eq_9, evS.eq_12, evS.eq_13, evS.eq_15, evS.eq_16, evS.eq_17, evS_for, evI, rangeD, frzI, frzO, tgs, tgss, evE.eq_1, evE.eq_2, evE.eq_3, evE.eq_4, evE.eq_5, evE.eq_6, evE.eq_7, evE.eq_8, evE.eq_9, evE.eq_10, evE.eq_11, evE.eq_12, evE.eq_13, evE.eq_14, evE.eq_15, evE.eq_17, evE.eq_18, evE.eq_19, evE.eq_21, evE.eq_23, evE.eq_24, evE.eq_26, evE.eq_27, evO, evA, evD, evI, evAnd, evOr, evCs, callBy, agCells, lends, looks, Ag.cell, giveBack, bnO, Ev.bnd, tst, Od.d, Cell.d, ap1, ap2, apL, odsD, rdV, ixD, cmpD, truth, bltD, bmD, isiD, isTy, Ev.plain, asgC, asg, asgs, setC, setCs, updC, appC, isLst, isOwn, finO, itemsOf, seqOf, odLook, lookR, backR, wipeR, evPart, slD, recv, binD, opd_glo, opd_k, opd_tup, opd_lst, opd_bin, opd_neg, opd_not, opd_and, opd_or, opd_ife, opd_cmp, opd_cmp2, opd_ix, opd_sl, opd_call, opd_blt, opd_bm, opd_isi, opd_pop, opd_lc, opd_fnv, opd_callv, opd_xat, opd_isx, opd_mkx, mov_glo, mov_k, mov_tup, mov_lst, mov_bin, mov_neg, mov_not, mov_and, mov_or, mov_ife, mov_cmp, mov_cmp2, mov_ix, mov_sl, mov_call, mov_blt, mov_bm, mov_isi, mov_pop, mov_lc, mov_fnv, mov_callv, mov_xat, mov_isx, mov_mkx, arg_glo, arg_k, arg_tup, arg_lst, arg_bin, arg_neg, arg_not, arg_and, arg_or, arg_ife, arg_cmp, arg_cmp2, arg_ix, arg_sl, arg_call, arg_blt, arg_bm, arg_isi, arg_pop, arg_lc, arg_fnv, arg_callv, arg_xat, arg_isx, arg_mkx, opd_var, mov_var, arg_var]; rfl, rfl⟩
    | dic _ => simp [okD] at o
    | ins _ _ => simp [okD] at o
    | exc _ _ => simp [okD] at o
    | fn _ => simp [okD] at o
end Pl
end

section
set_option maxHeartbeats 0
namespace K00
open PySem PySem.Spec PyProof.Rows L2 Ev
def top (i : Nat) : Stmt := PySem.Challenge.pw_lateplans_k00_errors.main.body.getD i (.Pass ⟨0, 0, 0, 0⟩)
def N0 : List Str := ["script", "k", "cell"]
def s0_0 : Ev.St := (.set (.name 2) (.ife (.cmp .lt (.var 1) (.blt .len (.cons false (.var 0) .nil))) (.ix (.var 0) (.var 1)) (.k (.int 0))))
def s0_1 : Ev.St := (.ret (.lst (.cons false (.bin .mul (.blt .abs (.cons false (.var 2) .nil)) (.blt .int (.cons false (.cmp .ge (.blt .abs (.cons false (.var 2) .nil)) (.bin .pow (.k (.int 10)) (.k (.int 18)))) .nil))) (.cons false (.bin .add (.bin .add (.bin .mod (.blt .int (.cons false (.var 2) .nil)) (.k (.int 2305843009213693951))) (.bin .mul (.k (.int 39373)) (.var 1))) (.k (.int 90700))) (.cons false (.k (.int 0)) .nil)))))
/-- _law_box(script, k); 0 script, 1 k, 2 cell -/
def b0 : Ev.Ss := (.cons s0_0 (.cons s0_1 .nil))
def f0 : Fn := ⟨3, 2, [], [], b0⟩
def d0 : He.DefD := ⟨("_law_box", none), "_law_box", "_law_box", defArgs (top 15), defBody (top 15), defScope (top 15), [], []⟩
theorem s0 : FnScope N0 ["script", "k"] (defScope (top 15)) := ⟨rfl, rfl, rfl, by decide +kernel, rfl, by decide +kernel, by decide +kernel⟩
def N1 : List Str := ["box", "size_so", "once", "far", "again", "some"]
def s1_0 : Ev.St := (.set (.name 5) (.bin .mod (.blt .int (.cons false (.ix (.var 0) (.k (.int 0))) .nil)) (.var 1)))
def s1_1 : Ev.St := (.setix 0 (.k (.int 0)) (.bin .fdiv (.ix (.var 0) (.k (.int 0))) (.var 1)))
def s1_2 : Ev.St := (.ret (.var 5))
def b1_0 : Ev.Ss := (.cons s1_0 (.cons s1_1 (.cons s1_2 .nil)))
def s1_3 : Ev.St := (.ife (.cmp .gt (.ix (.var 0) (.k (.int 0))) (.k (.int 0))) b1_0 .nil)
def s1_4 : Ev.St := (.setix 0 (.k (.int 2)) (.bin .add (.ix (.var 0) (.k (.int 2))) (.k (.int 1))))
def s1_5 : Ev.St := (.set (.name 2) (.bin .mod (.blt .int (.cons false (.bin .mul (.bin .add (.ix (.var 0) (.k (.int 1))) (.bin .mul (.k (.int 48271)) (.ix (.var 0) (.k (.int 2))))) (.bin .add (.k (.int 39373)) (.ix (.var 0) (.k (.int 2))))) .nil)) (.k (.int 2147483647))))
def s1_6 : Ev.St := (.set (.name 3) (.bin .add (.bin .mod (.blt .int (.cons false (.var 2) .nil)) (.k (.int 40009))) (.k (.int 7))))
def s1_7 : Ev.St := (.set (.name 4) (.bin .mod (.blt .int (.cons false (.bin .mul (.bin .add (.bin .add (.var 2) (.ix (.var 0) (.k (.int 2)))) (.bin .fdiv (.ix (.var 0) (.k (.int 1))) (.k (.int 1000003)))) (.var 3)) .nil)) (.k (.int 2147483629))))
def s1_8 : Ev.St := (.ret (.bin .mod (.blt .int (.cons false (.bin .fdiv (.bin .mod (.blt .int (.cons false (.bin .add (.bin .mul (.var 4) (.k (.int 48271))) (.var 2)) .nil)) (.k (.int 2147483587))) (.k (.int 64))) .nil)) (.var 1)))
/-- _law_take(box, size_so); 0 box, 1 size_so, 2 once, 3 far, 4 again, 5 some -/
def b1 : Ev.Ss := (.cons s1_3 (.cons s1_4 (.cons s1_5 (.cons s1_6 (.cons s1_7 (.cons s1_8 .nil))))))
def f1 : Fn := ⟨6, 2, [0], [], b1⟩
def d1 : He.DefD := ⟨("_law_take", none), "_law_take", "_law_take", defArgs (top 16), defBody (top 16), defScope (top 16), [], []⟩
theorem s1 : FnScope N1 ["box", "size_so"] (defScope (top 16)) := ⟨rfl, rfl, rfl, by decide +kernel, rfl, by decide +kernel, by decide +kernel⟩
def N2 : List Str := ["script", "top_so", "cells_so", "k", "cell", "at_so"]
def s2_0 : Ev.St := (.set (.name 2) (.or (.cons false (.blt .list (.cons false (.sl (.var 0) false .stk true (.var 1) false) .nil)) (.cons false (.lst (.cons false (.k (.int 0)) .nil)) .nil))))
def s2_1 : Ev.St := (.set (.name 5) (.bin .mod (.blt .int (.cons false (.var 3) .nil)) (.var 1)))
def s2_2 : Ev.St := (.setix 2 (.var 5) (.bin .add (.ix (.var 2) (.var 5)) (.bin .mul (.var 4) (.bin .add (.var 3) (.k (.int 2))))))
def b2_0 : Ev.Ss := (.cons s2_1 (.cons s2_2 .nil))
def s2_3 : Ev.St := (.for_ (.tup [(.name 3), (.name 4)]) (.enum (.sl (.var 0) true (.var 1) true (.k (.int 63)) false) 0) b2_0)
def s2_4 : Ev.St := (.ret (.var 2))
/-- _law_cells(script, top_so); 0 script, 1 top_so, 2 cells_so, 3 k, 4 cell, 5 at_so -/
def b2 : Ev.Ss := (.cons s2_0 (.cons s2_3 (.cons s2_4 .nil)))
def f2 : Fn := ⟨6, 2, [], [], b2⟩
def d2 : He.DefD := ⟨("_law_cells", none), "_law_cells", "_law_cells", defArgs (top 17), defBody (top 17), defScope (top 17), [], []⟩
theorem s2 : FnScope N2 ["script", "top_so"] (defScope (top 17)) := ⟨rfl, rfl, rfl, by decide +kernel, rfl, by decide +kernel, by decide +kernel⟩
def N3 : List Str := ["box", "goods_so"]
def s3_0 : Ev.St := (.ret (.ix (.var 1) (.call 1 (.cons false (.var 0) (.cons false (.blt .len (.cons false (.var 1) .nil)) .nil)))))
/-- _law_of(box, goods_so); 0 box, 1 goods_so -/
def b3 : Ev.Ss := (.cons s3_0 .nil)
def f3 : Fn := ⟨2, 2, [0], [], b3⟩
def d3 : He.DefD := ⟨("_law_of", none), "_law_of", "_law_of", defArgs (top 18), defBody (top 18), defScope (top 18), [], []⟩
theorem s3 : FnScope N3 ["box", "goods_so"] (defScope (top 18)) := ⟨rfl, rfl, rfl, by decide +kernel, rfl, by decide +kernel, by decide +kernel⟩
def N4 : List Str := ["got", "due", "mine", "its"]
def s4_0 : Ev.St := (.ret (.k (.bl false)))
def b4_0 : Ev.Ss := (.cons s4_0 .nil)
def s4_1 : Ev.St := (.ife (.cmp .ne (.isi (.var 0) [.list] true) (.isi (.var 1) [.list] true)) b4_0 .nil)
def s4_2 : Ev.St := (.ret (.k (.bl false)))
def b4_1 : Ev.Ss := (.cons s4_2 .nil)
def s4_3 : Ev.St := (.ife (.cmp .ne (.isi (.var 0) [.tuple] true) (.isi (.var 1) [.tuple] true)) b4_1 .nil)
def l4_0e : Ev.Ex := (.call 4 (.cons false (.var 2) (.cons false (.var 3) .nil)))
def l4_0i : Ev.Iter := (.zip (.cons false (.var 0) (.cons false (.var 1) .nil)))
def l4_0 : Ev.Ex := .lc l4_0e [2, 3] (.tup [(.name 2), (.name 3)]) l4_0i .nil
def s4_4 : Ev.St := (.ret (.and (.cons false (.cmp .eq (.blt .len (.cons false (.var 0) .nil)) (.blt .len (.cons false (.var 1) .nil))) (.cons false (.blt .all (.cons false l4_0 .nil)) .nil))))
def b4_2 : Ev.Ss := (.cons s4_1 (.cons s4_3 (.cons s4_4 .nil)))
def s4_5 : Ev.St := (.ife (.isi (.var 1) [.list, .tuple] false) b4_2 .nil)
def s4_6 : Ev.St := (.ret (.and (.cons false (.cmp .eq (.var 0) (.var 1)) (.cons false (.cmp .eq (.isi (.var 0) [.bool] true) (.isi (.var 1) [.bool] true)) (.cons false (.cmp .eq (.cmp .is (.var 0) (.k .non)) (.cmp .is (.var 1) (.k .non))) .nil)))))
def b4_3 : Ev.Ss := (.cons s4_6 .nil)
def s4_7 : Ev.St := (.ife (.or (.cons false (.cmp .is (.var 1) (.k .non)) (.cons false (.isi (.var 1) [.bool, .str] false) .nil))) b4_3 .nil)
def s4_8 : Ev.St := (.ret (.and (.cons false (.isi (.var 0) [.int] true) (.cons false (.not (.isi (.var 0) [.bool] true)) (.cons false (.cmp .eq (.var 0) (.var 1)) .nil)))))
theorem l4_0o {r : Option (R Cell)} {ρ : Rho} : opd l4_0 r ρ = Ev.bnd r fun c ρ => some (.ok (.c c) ρ) := rfl
theorem l4_0m {r : Option (R Cell)} {ρ : Rho} : mov l4_0 r ρ = r := rfl
theorem l4_0a {fd : Fn} {j : Nat} {r : Option (R Cell)} {ρ : Rho} : argOf fd j l4_0 r ρ = Ev.bnd r fun c ρ => some (.ok (.tmp (if fd.mu.contains j then c else .fz c.d)) ρ) := rfl
/-- _law_same(got, due); 0 got, 1 due, 2 mine, 3 its -/
def b4 : Ev.Ss := (.cons s4_5 (.cons s4_7 (.cons s4_8 .nil)))
def f4 : Fn := ⟨4, 2, [], [], b4⟩
def d4 : He.DefD := ⟨("_law_same", none), "_law_same", "_law_same", defArgs (top 19), defBody (top 19), defScope (top 19), [], []⟩
theorem s4 : FnScope N4 ["got", "due"] (defScope (top 19)) := ⟨rfl, rfl, rfl, by decide +kernel, rfl, by decide +kernel, by decide +kernel⟩
def N5 : List Str := ["caught", "kinds_so"]
def s5_0 : Ev.St := (.set (.name 1) (.lst (.cons false (.isx "BadPair" (.var 0)) (.cons false (.isx "BadText" (.var 0)) (.cons false (.isx "BadLine" (.var 0)) .nil)))))
def s5_1 : Ev.St := (.set (.name 1) (.bin .add (.var 1) (.lst (.cons false (.isx "NoWork" (.var 0)) (.cons false (.isx "OtherWorks" (.var 0)) .nil)))))
def s5_2 : Ev.St := (.set (.name 1) (.bin .add (.var 1) (.lst (.cons false (.isx "NoPlace" (.var 0)) .nil))))
def s5_3 : Ev.St := (.set (.name 1) (.bin .add (.var 1) (.lst (.cons false (.isx "NothingDone" (.var 0)) (.cons false (.isx "Known" (.var 0)) .nil)))))
def s5_4 : Ev.St := (.set (.name 1) (.bin .add (.var 1) (.lst (.cons false (.isx "NoPlan" (.var 0)) .nil))))
def s5_5 : Ev.St := (.ret (.bin .add (.var 1) (.lst (.cons false (.isx "NoNumber" (.var 0)) (.cons false (.isx "BadAnswer" (.var 0)) (.cons false (.isx "AllKnown" (.var 0)) .nil))))))
/-- _law_sorts(caught); 0 caught, 1 kinds_so -/
def b5 : Ev.Ss := (.cons s5_0 (.cons s5_1 (.cons s5_2 (.cons s5_3 (.cons s5_4 (.cons s5_5 .nil))))))
def f5 : Fn := ⟨2, 1, [], [], b5⟩
def d5 : He.DefD := ⟨("_law_sorts", none), "_law_sorts", "_law_sorts", defArgs (top 20), defBody (top 20), defScope (top 20), [], []⟩
theorem s5 : FnScope N5 ["caught"] (defScope (top 20)) := ⟨rfl, rfl, rfl, by decide +kernel, rfl, by decide +kernel, by decide +kernel⟩
def N6 : List Str := ["box", "every_so", "got", "due", "far", "tag", "k", "own", "j"]
def s6_0 : Ev.St := (.par [4, 5] (.cons false (.bin .sub (.call 1 (.cons false (.var 0) (.cons false (.bin .pow (.k (.int 10)) (.k (.int 9))) .nil))) (.bin .mul (.k (.int 5)) (.bin .pow (.k (.int 10)) (.k (.int 8))))) (.cons false (.call 3 (.cons false (.var 0) (.cons false (.lst (.cons false (.k (.str "a")) (.cons false (.k (.str "ants")) (.cons false (.k (.str "abcdefgh")) (.cons false (.k (.str "zz")) .nil))))) .nil))) .nil)))
def s6_1 : Ev.St := (.set (.name 1) (.lst (.cons false (.mkx 0 (.cons false (.var 4) .nil)) (.cons false (.mkx 1 (.cons false (.var 4) .nil)) (.cons false (.mkx 2 (.cons false (.var 4) .nil)) (.cons false (.mkx 3 (.cons false (.var 5) .nil)) .nil))))))
def s6_2 : Ev.St := (.set (.name 1) (.bin .add (.var 1) (.lst (.cons false (.mkx 4 .nil) (.cons false (.mkx 5 (.cons false (.var 4) .nil)) (.cons false (.mkx 6 .nil) .nil))))))
def s6_3 : Ev.St := (.set (.name 1) (.bin .add (.var 1) (.lst (.cons false (.mkx 7 (.cons false (.var 5) .nil)) (.cons false (.mkx 8 (.cons false (.var 5) .nil)) (.cons false (.mkx 9 (.cons false (.var 4) .nil)) (.cons false (.mkx 10 (.cons false (.var 4) .nil)) (.cons false (.mkx 11 .nil) .nil))))))))
def l6_0e : Ev.Ex := (.cmp .eq (.var 8) (.var 6))
def l6_0i : Ev.Iter := (.range (.cons false (.k (.int 12)) .nil))
def l6_0 : Ev.Ex := .lc l6_0e [8] (.name 8) l6_0i .nil
def s6_4 : Ev.St := (.ret (.k (.bl false)))
def b6_0 : Ev.Ss := (.cons s6_4 .nil)
def s6_5 : Ev.St := (.ife (.not (.call 4 (.cons false (.call 5 (.cons false (.var 7) .nil)) (.cons false l6_0 .nil)))) b6_0 .nil)
def s6_6 : Ev.St := (.ret (.k (.bl false)))
def b6_1 : Ev.Ss := (.cons s6_6 .nil)
def s6_7 : Ev.St := (.ife (.or (.cons false (.not (.isx "PlanError" (.var 7))) (.cons false (.not (.isx "ValueError" (.var 7))) .nil))) b6_1 .nil)
def b6_2 : Ev.Ss := (.cons s6_5 (.cons s6_7 .nil))
def s6_8 : Ev.St := (.for_ (.tup [(.name 6), (.name 7)]) (.enum (.var 1) 0) b6_2)
def s6_9 : Ev.St := (.set (.name 2) (.lst (.cons false (.xat "place" (.ix (.var 1) (.k (.int 0)))) (.cons false (.xat "piece" (.ix (.var 1) (.k (.int 1)))) (.cons false (.xat "number" (.ix (.var 1) (.k (.int 2)))) (.cons false (.xat "name" (.ix (.var 1) (.k (.int 3)))) (.cons false (.xat "number" (.ix (.var 1) (.k (.int 5)))) .nil)))))))
def s6_10 : Ev.St := (.set (.name 2) (.bin .add (.var 2) (.lst (.cons false (.xat "name" (.ix (.var 1) (.k (.int 7)))) (.cons false (.xat "name" (.ix (.var 1) (.k (.int 8)))) (.cons false (.xat "number" (.ix (.var 1) (.k (.int 9)))) (.cons false (.xat "answer" (.ix (.var 1) (.k (.int 10)))) .nil)))))))
def s6_11 : Ev.St := (.set (.name 3) (.lst (.cons false (.var 4) (.cons false (.var 4) (.cons false (.var 4) (.cons false (.var 5) (.cons false (.var 4) (.cons false (.var 5) (.cons false (.var 5) (.cons false (.var 4) (.cons false (.var 4) .nil)))))))))))
def s6_12 : Ev.St := (.set (.name 2) (.bin .add (.var 2) (.lst (.cons false (.xat "place" (.mkx 0 (.cons false (.var 4) .nil))) (.cons false (.xat "piece" (.mkx 1 (.cons false (.k (.int 7)) .nil))) .nil)))))
def s6_13 : Ev.St := (.set (.name 2) (.bin .add (.var 2) (.lst (.cons false (.xat "number" (.mkx 2 (.cons false (.neg (.k (.int 1))) .nil))) (.cons false (.xat "name" (.mkx 3 (.cons false (.k (.str "b")) .nil))) .nil)))))
def s6_14 : Ev.St := (.set (.name 3) (.bin .add (.var 3) (.lst (.cons false (.var 4) (.cons false (.k (.int 7)) (.cons false (.neg (.k (.int 1))) (.cons false (.k (.str "b")) .nil)))))))
def s6_15 : Ev.St := (.set (.name 2) (.bin .add (.var 2) (.lst (.cons false (.xat "number" (.mkx 5 (.cons false (.k (.int 3)) .nil))) (.cons false (.xat "name" (.mkx 7 (.cons false (.var 5) .nil))) .nil)))))
def s6_16 : Ev.St := (.set (.name 2) (.bin .add (.var 2) (.lst (.cons false (.xat "name" (.mkx 8 (.cons false (.var 5) .nil))) (.cons false (.xat "answer" (.mkx 10 (.cons false (.var 4) .nil))) .nil)))))
def s6_17 : Ev.St := (.ret (.call 4 (.cons false (.bin .add (.var 2) (.lst (.cons false (.xat "number" (.mkx 9 (.cons false (.bin .pow (.k (.int 10)) (.k (.int 30))) .nil))) .nil))) (.cons false (.bin .add (.var 3) (.lst (.cons false (.k (.int 3)) (.cons false (.var 5) (.cons false (.var 5) (.cons false (.var 4) (.cons false (.bin .pow (.k (.int 10)) (.k (.int 30))) .nil))))))) .nil))))
theorem l6_0o {r : Option (R Cell)} {ρ : Rho} : opd l6_0 r ρ = Ev.bnd r fun c ρ => some (.ok (.c c) ρ) := rfl
theorem l6_0m {r : Option (R Cell)} {ρ : Rho} : mov l6_0 r ρ = r := rfl
theorem l6_0a {fd : Fn} {j : Nat} {r : Option (R Cell)} {ρ : Rho} : argOf fd j l6_0 r ρ = Ev.bnd r fun c ρ => some (.ok (.tmp (if fd.mu.contains j then c else .fz c.d)) ρ) := rfl
/-- _law_right(box); 0 box, 1 every_so, 2 got, 3 due, 4 far, 5 tag, 6 k, 7 own, 8 j -/
def b6 : Ev.Ss := (.cons s6_0 (.cons s6_1 (.cons s6_2 (.cons s6_3 (.cons s6_8 (.cons s6_9 (.cons s6_10 (.cons s6_11 (.cons s6_12 (.cons s6_13 (.cons s6_14 (.cons s6_15 (.cons s6_16 (.cons s6_17 .nil))))))))))))))
def f6 : Fn := ⟨9, 1, [0], [], b6⟩
def d6 : He.DefD := ⟨("_law_right", none), "_law_right", "_law_right", defArgs (top 21), defBody (top 21), defScope (top 21), [], []⟩
theorem s6 : FnScope N6 ["box"] (defScope (top 21)) := ⟨rfl, rfl, rfl, by decide +kernel, rfl, by decide +kernel, by decide +kernel⟩
def N7 : List Str := ["script", "cells", "k"]
def s7_0 : Ev.St := (.set (.name 1) (.call 2 (.cons false (.var 0) (.cons false (.k (.int 3)) .nil))))
def l7_0e : Ev.Ex := (.call 6 (.cons false (.call 0 (.cons false (.var 1) (.cons false (.var 2) .nil))) .nil))
def l7_0i : Ev.Iter := (.range (.cons false (.blt .len (.cons false (.var 1) .nil)) .nil))
def l7_0 : Ev.Ex := .lc l7_0e [2] (.name 2) l7_0i .nil
def s7_1 : Ev.St := (.ret (.blt .all (.cons false l7_0 .nil)))
theorem l7_0o {r : Option (R Cell)} {ρ : Rho} : opd l7_0 r ρ = Ev.bnd r fun c ρ => some (.ok (.c c) ρ) := rfl
theorem l7_0m {r : Option (R Cell)} {ρ : Rho} : mov l7_0 r ρ = r := rfl
theorem l7_0a {fd : Fn} {j : Nat} {r : Option (R Cell)} {ρ : Rho} : argOf fd j l7_0 r ρ = Ev.bnd r fun c ρ => some (.ok (.tmp (if fd.mu.contains j then c else .fz c.d)) ρ) := rfl
/-- law(script); 0 script, 1 cells, 2 k -/
def b7 : Ev.Ss := (.cons s7_0 (.cons s7_1 .nil))
def f7 : Fn := ⟨3, 1, [], [], b7⟩
def d7 : He.DefD := ⟨("law", none), "law", "law", defArgs (top 22), defBody (top 22), defScope (top 22), [], []⟩
theorem s7 : FnScope N7 ["script"] (defScope (top 22)) := ⟨rfl, rfl, rfl, by decide +kernel, rfl, by decide +kernel, by decide +kernel⟩
def XI : Eh.XiL := [((none : Option Nat), ("BadPair" : Str), false), ((none : Option Nat), ("BadText" : Str), false), ((none : Option Nat), ("BadLine" : Str), false), ((none : Option Nat), ("NoWork" : Str), false), ((none : Option Nat), ("OtherWorks" : Str), false), ((none : Option Nat), ("NoPlace" : Str), false), ((none : Option Nat), ("NothingDone" : Str), false), ((none : Option Nat), ("Known" : Str), false), ((none : Option Nat), ("NoPlan" : Str), false), ((none : Option Nat), ("NoNumber" : Str), false), ((none : Option Nat), ("BadAnswer" : Str), false), ((none : Option Nat), ("AllKnown" : Str), false), ((none : Option Nat), ("PlanError" : Str), false), ((none : Option Nat), ("ValueError" : Str), false), ((some 0 : Option Nat), ("BadPair" : Str), true), ((some 1 : Option Nat), ("BadPair" : Str), false), ((some 2 : Option Nat), ("BadPair" : Str), false), ((some 3 : Option Nat), ("BadPair" : Str), false), ((some 4 : Option Nat), ("BadPair" : Str), false), ((some 5 : Option Nat), ("BadPair" : Str), false), ((some 6 : Option Nat), ("BadPair" : Str), false), ((some 7 : Option Nat), ("BadPair" : Str), false), ((some 8 : Option Nat), ("BadPair" : Str), false), ((some 9 : Option Nat), ("BadPair" : Str), false), ((some 10 : Option Nat), ("BadPair" : Str), false), ((some 11 : Option Nat), ("BadPair" : Str), false), ((some 0 : Option Nat), ("BadText" : Str), false), ((some 1 : Option Nat), ("BadText" : Str), true), ((some 2 : Option Nat), ("BadText" : Str), false), ((some 3 : Option Nat), ("BadText" : Str), false), ((some 4 : Option Nat), ("BadText" : Str), false), ((some 5 : Option Nat), ("BadText" : Str), false), ((some 6 : Option Nat), ("BadText" : Str), false), ((some 7 : Option Nat), ("BadText" : Str), false), ((some 8 : Option Nat), ("BadText" : Str), false), ((some 9 : Option Nat), ("BadText" : Str), false), ((some 10 : Option Nat), ("BadText" : Str), false), ((some 11 : Option Nat), ("BadText" : Str), false), ((some 0 : Option Nat), ("BadLine" : Str), false), ((some 1 : Option Nat), ("BadLine" : Str), false), ((some 2 : Option Nat), ("BadLine" : Str), true), ((some 3 : Option Nat), ("BadLine" : Str), false), ((some 4 : Option Nat), ("BadLine" : Str), false), ((some 5 : Option Nat), ("BadLine" : Str), false), ((some 6 : Option Nat), ("BadLine" : Str), false), ((some 7 : Option Nat), ("BadLine" : Str), false), ((some 8 : Option Nat), ("BadLine" : Str), false), ((some 9 : Option Nat), ("BadLine" : Str), false), ((some 10 : Option Nat), ("BadLine" : Str), false), ((some 11 : Option Nat), ("BadLine" : Str), false), ((some 0 : Option Nat), ("NoWork" : Str), false), ((some 1 : Option Nat), ("NoWork" : Str), false), ((some 2 : Option Nat), ("NoWork" : Str), false), ((some 3 : Option Nat), ("NoWork" : Str), true), ((some 4 : Option Nat), ("NoWork" : Str), false), ((some 5 : Option Nat), ("NoWork" : Str), false), ((some 6 : Option Nat), ("NoWork" : Str), false), ((some 7 : Option Nat), ("NoWork" : Str), false), ((some 8 : Option Nat), ("NoWork" : Str), false), ((some 9 : Option Nat), ("NoWork" : Str), false), ((some 10 : Option Nat), ("NoWork" : Str), false), ((some 11 : Option Nat), ("NoWork" : Str), false), ((some 0 : Option Nat), ("OtherWorks" : Str), false), ((some 1 : Option Nat), ("OtherWorks" : Str), false), ((some 2 : Option Nat), ("OtherWorks" : Str), false), ((some 3 : Option Nat), ("OtherWorks" : Str), false), ((some 4 : Option Nat), ("OtherWorks" : Str), true), ((some 5 : Option Nat), ("OtherWorks" : Str), false), ((some 6 : Option Nat), ("OtherWorks" : Str), false), ((some 7 : Option Nat), ("OtherWorks" : Str), false), ((some 8 : Option Nat), ("OtherWorks" : Str), false), ((some 9 : Option Nat), ("OtherWorks" : Str), false), ((some 10 : Option Nat), ("OtherWorks" : Str), false), ((some 11 : Option Nat), ("OtherWorks" : Str), false), ((some 0 : Option Nat), ("NoPlace" : Str), false), ((some 1 : Option Nat), ("NoPlace" : Str), false), ((some 2 : Option Nat), ("NoPlace" : Str), false), ((some 3 : Option Nat), ("NoPlace" : Str), false), ((some 4 : Option Nat), ("NoPlace" : Str), false), ((some 5 : Option Nat), ("NoPlace" : Str), true), ((some 6 : Option Nat), ("NoPlace" : Str), false), ((some 7 : Option Nat), ("NoPlace" : Str), false), ((some 8 : Option Nat), ("NoPlace" : Str), false), ((some 9 : Option Nat), ("NoPlace" : Str), false), ((some 10 : Option Nat), ("NoPlace" : Str), false), ((some 11 : Option Nat), ("NoPlace" : Str), false), ((some 0 : Option Nat), ("NothingDone" : Str), false), ((some 1 : Option Nat), ("NothingDone" : Str), false), ((some 2 : Option Nat), ("NothingDone" : Str), false), ((some 3 : Option Nat), ("NothingDone" : Str), false), ((some 4 : Option Nat), ("NothingDone" : Str), false), ((some 5 : Option Nat), ("NothingDone" : Str), false), ((some 6 : Option Nat), ("NothingDone" : Str), true), ((some 7 : Option Nat), ("NothingDone" : Str), false), ((some 8 : Option Nat), ("NothingDone" : Str), false), ((some 9 : Option Nat), ("NothingDone" : Str), false), ((some 10 : Option Nat), ("NothingDone" : Str), false), ((some 11 : Option Nat), ("NothingDone" : Str), false), ((some 0 : Option Nat), ("Known" : Str), false), ((some 1 : Option Nat), ("Known" : Str), false), ((some 2 : Option Nat), ("Known" : Str), false), ((some 3 : Option Nat), ("Known" : Str), false), ((some 4 : Option Nat), ("Known" : Str), false), ((some 5 : Option Nat), ("Known" : Str), false), ((some 6 : Option Nat), ("Known" : Str), false), ((some 7 : Option Nat), ("Known" : Str), true), ((some 8 : Option Nat), ("Known" : Str), false), ((some 9 : Option Nat), ("Known" : Str), false), ((some 10 : Option Nat), ("Known" : Str), false), ((some 11 : Option Nat), ("Known" : Str), false), ((some 0 : Option Nat), ("NoPlan" : Str), false), ((some 1 : Option Nat), ("NoPlan" : Str), false), ((some 2 : Option Nat), ("NoPlan" : Str), false), ((some 3 : Option Nat), ("NoPlan" : Str), false), ((some 4 : Option Nat), ("NoPlan" : Str), false), ((some 5 : Option Nat), ("NoPlan" : Str), false), ((some 6 : Option Nat), ("NoPlan" : Str), false), ((some 7 : Option Nat), ("NoPlan" : Str), false), ((some 8 : Option Nat), ("NoPlan" : Str), true), ((some 9 : Option Nat), ("NoPlan" : Str), false), ((some 10 : Option Nat), ("NoPlan" : Str), false), ((some 11 : Option Nat), ("NoPlan" : Str), false), ((some 0 : Option Nat), ("NoNumber" : Str), false), ((some 1 : Option Nat), ("NoNumber" : Str), false), ((some 2 : Option Nat), ("NoNumber" : Str), false), ((some 3 : Option Nat), ("NoNumber" : Str), false), ((some 4 : Option Nat), ("NoNumber" : Str), false), ((some 5 : Option Nat), ("NoNumber" : Str), false), ((some 6 : Option Nat), ("NoNumber" : Str), false), ((some 7 : Option Nat), ("NoNumber" : Str), false), ((some 8 : Option Nat), ("NoNumber" : Str), false), ((some 9 : Option Nat), ("NoNumber" : Str), true), ((some 10 : Option Nat), ("NoNumber" : Str), false), ((some 11 : Option Nat), ("NoNumber" : Str), false), ((some 0 : Option Nat), ("BadAnswer" : Str), false), ((some 1 : Option Nat), ("BadAnswer" : Str), false), ((some 2 : Option Nat), ("BadAnswer" : Str), false), ((some 3 : Option Nat), ("BadAnswer" : Str), false), ((some 4 : Option Nat), ("BadAnswer" : Str), false), ((some 5 : Option Nat), ("BadAnswer" : Str), false), ((some 6 : Option Nat), ("BadAnswer" : Str), false), ((some 7 : Option Nat), ("BadAnswer" : Str), false), ((some 8 : Option Nat), ("BadAnswer" : Str), false), ((some 9 : Option Nat), ("BadAnswer" : Str), false), ((some 10 : Option Nat), ("BadAnswer" : Str), true), ((some 11 : Option Nat), ("BadAnswer" : Str), false), ((some 0 : Option Nat), ("AllKnown" : Str), false), ((some 1 : Option Nat), ("AllKnown" : Str), false), ((some 2 : Option Nat), ("AllKnown" : Str), false), ((some 3 : Option Nat), ("AllKnown" : Str), false), ((some 4 : Option Nat), ("AllKnown" : Str), false), ((some 5 : Option Nat), ("AllKnown" : Str), false), ((some 6 : Option Nat), ("AllKnown" : Str), false), ((some 7 : Option Nat), ("AllKnown" : Str), false), ((some 8 : Option Nat), ("AllKnown" : Str), false), ((some 9 : Option Nat), ("AllKnown" : Str), false), ((some 10 : Option Nat), ("AllKnown" : Str), false), ((some 11 : Option Nat), ("AllKnown" : Str), true), ((some 0 : Option Nat), ("PlanError" : Str), true), ((some 1 : Option Nat), ("PlanError" : Str), true), ((some 2 : Option Nat), ("PlanError" : Str), true), ((some 3 : Option Nat), ("PlanError" : Str), true), ((some 4 : Option Nat), ("PlanError" : Str), true), ((some 5 : Option Nat), ("PlanError" : Str), true), ((some 6 : Option Nat), ("PlanError" : Str), true), ((some 7 : Option Nat), ("PlanError" : Str), true), ((some 8 : Option Nat), ("PlanError" : Str), true), ((some 9 : Option Nat), ("PlanError" : Str), true), ((some 10 : Option Nat), ("PlanError" : Str), true), ((some 11 : Option Nat), ("PlanError" : Str), true), ((some 0 : Option Nat), ("ValueError" : Str), true), ((some 1 : Option Nat), ("ValueError" : Str), true), ((some 2 : Option Nat), ("ValueError" : Str), true), ((some 3 : Option Nat), ("ValueError" : Str), true), ((some 4 : Option Nat), ("ValueError" : Str), true), ((some 5 : Option Nat), ("ValueError" : Str), true), ((some 6 : Option Nat), ("ValueError" : Str), true), ((some 7 : Option Nat), ("ValueError" : Str), true), ((some 8 : Option Nat), ("ValueError" : Str), true), ((some 9 : Option Nat), ("ValueError" : Str), true), ((some 10 : Option Nat), ("ValueError" : Str), true), ((some 11 : Option Nat), ("ValueError" : Str), true)]
def g : G := { fn := fun i => match i with | 0 => some f0 | 1 => some f1 | 2 => some f2 | 3 => some f3 | 4 => some f4 | 5 => some f5 | 6 => some f6 | 7 => some f7 | _ => none, glo := fun i => match i with  | _ => none, xf := fun i => match i with | 0 => some "place" | 1 => some "piece" | 2 => some "number" | 3 => some "name" | 4 => some "given" | 5 => some "number" | 6 => some "given" | 7 => some "name" | 8 => some "name" | 9 => some "number" | 10 => some "answer" | 11 => some "given" | _ => none, xs := fun i j => match i, j with | 0, 0 => some true | 0, 1 => some false | 0, 2 => some false | 0, 3 => some false | 0, 4 => some false | 0, 5 => some false | 0, 6 => some false | 0, 7 => some false | 0, 8 => some false | 0, 9 => some false | 0, 10 => some false | 0, 11 => some false | 1, 0 => some false | 1, 1 => some true | 1, 2 => some false | 1, 3 => some false | 1, 4 => some false | 1, 5 => some false | 1, 6 => some false | 1, 7 => some false | 1, 8 => some false | 1, 9 => some false | 1, 10 => some false | 1, 11 => some false | 2, 0 => some false | 2, 1 => some false | 2, 2 => some true | 2, 3 => some false | 2, 4 => some false | 2, 5 => some false | 2, 6 => some false | 2, 7 => some false | 2, 8 => some false | 2, 9 => some false | 2, 10 => some false | 2, 11 => some false | 3, 0 => some false | 3, 1 => some false | 3, 2 => some false | 3, 3 => some true | 3, 4 => some false | 3, 5 => some false | 3, 6 => some false | 3, 7 => some false | 3, 8 => some false | 3, 9 => some false | 3, 10 => some false | 3, 11 => some false | 4, 0 => some false | 4, 1 => some false | 4, 2 => some false | 4, 3 => some false | 4, 4 => some true | 4, 5 => some false | 4, 6 => some false | 4, 7 => some false | 4, 8 => some false | 4, 9 => some false | 4, 10 => some false | 4, 11 => some false | 5, 0 => some false | 5, 1 => some false | 5, 2 => some false | 5, 3 => some false | 5, 4 => some false | 5, 5 => some true | 5, 6 => some false | 5, 7 => some false | 5, 8 => some false | 5, 9 => some false | 5, 10 => some false | 5, 11 => some false | 6, 0 => some false | 6, 1 => some false | 6, 2 => some false | 6, 3 => some false | 6, 4 => some false | 6, 5 => some false | 6, 6 => some true | 6, 7 => some false | 6, 8 => some false | 6, 9 => some false | 6, 10 => some false | 6, 11 => some false | 7, 0 => some false | 7, 1 => some false | 7, 2 => some false | 7, 3 => some false | 7, 4 => some false | 7, 5 => some false | 7, 6 => some false | 7, 7 => some true | 7, 8 => some false | 7, 9 => some false | 7, 10 => some false | 7, 11 => some false | 8, 0 => some false | 8, 1 => some false | 8, 2 => some false | 8, 3 => some false | 8, 4 => some false | 8, 5 => some false | 8, 6 => some false | 8, 7 => some false | 8, 8 => some true | 8, 9 => some false | 8, 10 => some false | 8, 11 => some false | 9, 0 => some false | 9, 1 => some false | 9, 2 => some false | 9, 3 => some false | 9, 4 => some false | 9, 5 => some false | 9, 6 => some false | 9, 7 => some false | 9, 8 => some false | 9, 9 => some true | 9, 10 => some false | 9, 11 => some false | 10, 0 => some false | 10, 1 => some false | 10, 2 => some false | 10, 3 => some false | 10, 4 => some false | 10, 5 => some false | 10, 6 => some false | 10, 7 => some false | 10, 8 => some false | 10, 9 => some false | 10, 10 => some true | 10, 11 => some false | 11, 0 => some false | 11, 1 => some false | 11, 2 => some false | 11, 3 => some false | 11, 4 => some false | 11, 5 => some false | 11, 6 => some false | 11, 7 => some false | 11, 8 => some false | 11, 9 => some false | 11, 10 => some false | 11, 11 => some true | _, _ => none, x0 := fun i => match i with | 4 => true | 6 => true | 11 => true | _ => false, xi := Eh.xiOf XI }
def T : Tbl := { fn := fun i => match i with | 0 => some ("_law_box", ["script", "k"]) | 1 => some ("_law_take", ["box", "size_so"]) | 2 => some ("_law_cells", ["script", "top_so"]) | 3 => some ("_law_of", ["box", "goods_so"]) | 4 => some ("_law_same", ["got", "due"]) | 5 => some ("_law_sorts", ["caught"]) | 6 => some ("_law_right", ["box"]) | 7 => some ("law", ["script"]) | _ => none, gl := fun i => match i with  | _ => none, cl := fun i => match i with | 0 => some "BadPair" | 1 => some "BadText" | 2 => some "BadLine" | 3 => some "NoWork" | 4 => some "OtherWorks" | 5 => some "NoPlace" | 6 => some "NothingDone" | 7 => some "Known" | 8 => some "NoPlan" | 9 => some "NoNumber" | 10 => some "BadAnswer" | 11 => some "AllKnown" | _ => none }
theorem c0 : chkSs g T N0 ⟨defScope (top 15), none⟩ b0 (defBody (top 15)) = true := by decide +kernel
theorem c1 : chkSs g T N1 ⟨defScope (top 16), none⟩ b1 (defBody (top 16)) = true := by decide +kernel
theorem c2 : chkSs g T N2 ⟨defScope (top 17), none⟩ b2 (defBody (top 17)) = true := by decide +kernel
theorem c3 : chkSs g T N3 ⟨defScope (top 18), none⟩ b3 (defBody (top 18)) = true := by decide +kernel
theorem c4 : chkSs g T N4 ⟨defScope (top 19), none⟩ b4 (defBody (top 19)) = true := by decide +kernel
theorem c5 : chkSs g T N5 ⟨defScope (top 20), none⟩ b5 (defBody (top 20)) = true := by decide +kernel
theorem c6 : chkSs g T N6 ⟨defScope (top 21), none⟩ b6 (defBody (top 21)) = true := by decide +kernel
theorem c7 : chkSs g T N7 ⟨defScope (top 22), none⟩ b7 (defBody (top 22)) = true := by decide +kernel
def x0 : He.DefD := ⟨("BadPair", some "__init__"), "__init__", "BadPair.__init__", defArgs (Eh.inCls (top 2) 0), defBody (Eh.inCls (top 2) 0), defScope (Eh.inCls (top 2) 0), [], []⟩
def x1 : He.DefD := ⟨("BadText", some "__init__"), "__init__", "BadText.__init__", defArgs (Eh.inCls (top 3) 0), defBody (Eh.inCls (top 3) 0), defScope (Eh.inCls (top 3) 0), [], []⟩
def x2 : He.DefD := ⟨("BadLine", some "__init__"), "__init__", "BadLine.__init__", defArgs (Eh.inCls (top 4) 0), defBody (Eh.inCls (top 4) 0), defScope (Eh.inCls (top 4) 0), [], []⟩
def x3 : He.DefD := ⟨("NoWork", some "__init__"), "__init__", "NoWork.__init__", defArgs (Eh.inCls (top 5) 0), defBody (Eh.inCls (top 5) 0), defScope (Eh.inCls (top 5) 0), [], []⟩
def x4 : He.DefD := ⟨("OtherWorks", some "__init__"), "__init__", "OtherWorks.__init__", defArgs (Eh.inCls (top 6) 0), defBody (Eh.inCls (top 6) 0), defScope (Eh.inCls (top 6) 0), [], []⟩
def x5 : He.DefD := ⟨("NoPlace", some "__init__"), "__init__", "NoPlace.__init__", defArgs (Eh.inCls (top 7) 0), defBody (Eh.inCls (top 7) 0), defScope (Eh.inCls (top 7) 0), [], []⟩
def x6 : He.DefD := ⟨("NothingDone", some "__init__"), "__init__", "NothingDone.__init__", defArgs (Eh.inCls (top 8) 0), defBody (Eh.inCls (top 8) 0), defScope (Eh.inCls (top 8) 0), [], []⟩
def x7 : He.DefD := ⟨("Known", some "__init__"), "__init__", "Known.__init__", defArgs (Eh.inCls (top 9) 0), defBody (Eh.inCls (top 9) 0), defScope (Eh.inCls (top 9) 0), [], []⟩
def x8 : He.DefD := ⟨("NoPlan", some "__init__"), "__init__", "NoPlan.__init__", defArgs (Eh.inCls (top 10) 0), defBody (Eh.inCls (top 10) 0), defScope (Eh.inCls (top 10) 0), [], []⟩
def x9 : He.DefD := ⟨("NoNumber", some "__init__"), "__init__", "NoNumber.__init__", defArgs (Eh.inCls (top 11) 0), defBody (Eh.inCls (top 11) 0), defScope (Eh.inCls (top 11) 0), [], []⟩
def x10 : He.DefD := ⟨("BadAnswer", some "__init__"), "__init__", "BadAnswer.__init__", defArgs (Eh.inCls (top 12) 0), defBody (Eh.inCls (top 12) 0), defScope (Eh.inCls (top 12) 0), [], []⟩
def x11 : He.DefD := ⟨("AllKnown", some "__init__"), "__init__", "AllKnown.__init__", defArgs (Eh.inCls (top 13) 0), defBody (Eh.inCls (top 13) 0), defScope (Eh.inCls (top 13) 0), [], []⟩
def fn : List He.DefD := [d0, d1, d2, d3, d4, d5, d6, d7, x0, x1, x2, x3, x4, x5, x6, x7, x8, x9, x10, x11]
def fa : List He.Fa := [.glo "_law_box", .glo "_law_take", .glo "_law_cells", .glo "_law_of", .glo "_law_same", .glo "_law_sorts", .glo "_law_right", .glo "law", .free "len", .free "abs", .free "int", .free "str", .free "bool", .free "max", .free "min", .free "sum", .free "all", .free "any", .free "sorted", .free "tuple", .free "list", .free "isinstance", .free "range", .free "enumerate", .free "zip", .free "set", .free "ValueError"]
def ex (K : PySem.W.Frag) : Bool := true && Eh.xiB T.cl K XI && Eh.xclsB K "BadPair" "place" && Eh.xclsB K "BadText" "piece" && Eh.xclsB K "BadLine" "number" && Eh.xclsB K "NoWork" "name" && Eh.xclsB K "OtherWorks" "given" && Eh.xclsB K "NoPlace" "number" && Eh.xclsB K "NothingDone" "given" && Eh.xclsB K "Known" "name" && Eh.xclsB K "NoPlan" "name" && Eh.xclsB K "NoNumber" "number" && Eh.xclsB K "BadAnswer" "answer" && Eh.xclsB K "AllKnown" "given" && decide (PySem.W.exmOne K (.ref (He.ga K "BadPair")) (.ref (He.ga K "BadPair")) = some true) && decide (PySem.W.exmOne K (.ref (He.ga K "BadPair")) (.ref (He.ga K "BadText")) = some false) && decide (PySem.W.exmOne K (.ref (He.ga K "BadPair")) (.ref (He.ga K "BadLine")) = some false) && decide (PySem.W.exmOne K (.ref (He.ga K "BadPair")) (.ref (He.ga K "NoWork")) = some false) && decide (PySem.W.exmOne K (.ref (He.ga K "BadPair")) (.ref (He.ga K "OtherWorks")) = some false) && decide (PySem.W.exmOne K (.ref (He.ga K "BadPair")) (.ref (He.ga K "NoPlace")) = some false) && decide (PySem.W.exmOne K (.ref (He.ga K "BadPair")) (.ref (He.ga K "NothingDone")) = some false) && decide (PySem.W.exmOne K (.ref (He.ga K "BadPair")) (.ref (He.ga K "Known")) = some false) && decide (PySem.W.exmOne K (.ref (He.ga K "BadPair")) (.ref (He.ga K "NoPlan")) = some false) && decide (PySem.W.exmOne K (.ref (He.ga K "BadPair")) (.ref (He.ga K "NoNumber")) = some false) && decide (PySem.W.exmOne K (.ref (He.ga K "BadPair")) (.ref (He.ga K "BadAnswer")) = some false) && decide (PySem.W.exmOne K (.ref (He.ga K "BadPair")) (.ref (He.ga K "AllKnown")) = some false) && decide (PySem.W.exmOne K (.ref (He.ga K "BadText")) (.ref (He.ga K "BadPair")) = some false) && decide (PySem.W.exmOne K (.ref (He.ga K "BadText")) (.ref (He.ga K "BadText")) = some true) && decide (PySem.W.exmOne K (.ref (He.ga K "BadText")) (.ref (He.ga K "BadLine")) = some false) && decide (PySem.W.exmOne K (.ref (He.ga K "BadText")) (.ref (He.ga K "NoWork")) = some false) && decide (PySem.W.exmOne K (.ref (He.ga K "BadText")) (.ref (He.ga K "OtherWorks")) = some false) && decide (PySem.W.exmOne K (.ref (He.ga K "BadText")) (.ref (He.ga K "NoPlace")) = some false) && decide (PySem.W.exmOne K (.ref (He.ga K "BadText")) (.ref (He.ga K "NothingDone")) = some false) && decide (PySem.W.exmOne K (.ref (He.ga K "BadText")) (.ref (He.ga K "Known")) = some false) && decide (PySem.W.exmOne K (.ref (He.ga K "BadText")) (.ref (He.ga K "NoPlan")) = some false) && decide (PySem.W.exmOne K (.ref (He.ga K "BadText")) (.ref (He.ga K "NoNumber")) = some false) && decide (PySem.W.exmOne K (.ref (He.ga K "BadText")) (.ref (He.ga K "BadAnswer")) = some false) && decide (PySem.W.exmOne K (.ref (He.ga K "BadText")) (.ref (He.ga K "AllKnown")) = some false) && decide (PySem.W.exmOne K (.ref (He.ga K "BadLine")) (.ref (He.ga K "BadPair")) = some false) && decide (PySem.W.exmOne K (.ref (He.ga K "BadLine")) (.ref (He.ga K "BadText")) = some false) && decide (PySem.W.exmOne K (.ref (He.ga K "BadLine")) (.ref (He.ga K "BadLine")) = some true) && decide (PySem.W.exmOne K (.ref (He.ga K "BadLine")) (.ref (He.ga K "NoWork")) = some false) && decide (PySem.W.exmOne K (.ref (He.ga K "BadLine")) (.ref (He.ga K "OtherWorks")) = some false) && decide (PySem.W.exmOne K (.ref (He.ga K "BadLine")) (.ref (He.ga K "NoPlace")) = some false) && decide (PySem.W.exmOne K (.ref (He.ga K "BadLine")) (.ref (He.ga K "NothingDone")) = some false) && decide (PySem.W.exmOne K (.ref (He.ga K "BadLine")) (.ref (He.ga K "Known")) = some false) && decide (PySem.W.exmOne K (.ref (He.ga K "BadLine")) (.ref (He.ga K "NoPlan")) = some false) && decide (PySem.W.exmOne K (.ref (He.ga K "BadLine")) (.ref (He.ga K "NoNumber")) = some false) && decide (PySem.W.exmOne K (.ref (He.ga K "BadLine")) (.ref (He.ga K "BadAnswer")) = some false) && decide (PySem.W.exmOne K (.ref (He.ga K "BadLine")) (.ref (He.ga K "AllKnown")) = some false) && decide (PySem.W.exmOne K (.ref (He.ga K "NoWork")) (.ref (He.ga K "BadPair")) = some false) && decide (PySem.W.exmOne K (.ref (He.ga K "NoWork")) (.ref (He.ga K "BadText")) = some false) && decide (PySem.W.exmOne K (.ref (He.ga K "NoWork")) (.ref (He.ga K "BadLine")) = some false) && decide (PySem.W.exmOne K (.ref (He.ga K "NoWork")) (.ref (He.ga K "NoWork")) = some true) && decide (PySem.W.exmOne K (.ref (He.ga K "NoWork")) (.ref (He.ga K "OtherWorks")) = some false) && decide (PySem.W.exmOne K (.ref (He.ga K "NoWork")) (.ref (He.ga K "NoPlace")) = some false) && decide (PySem.W.exmOne K (.ref (He.ga K "NoWork")) (.ref (He.ga K "NothingDone")) = some false) && decide (PySem.W.exmOne K (.ref (He.ga K "NoWork")) (.ref (He.ga K "Known")) = some false) && decide (PySem.W.exmOne K (.ref (He.ga K "NoWork")) (.ref (He.ga K "NoPlan")) = some false) && decide (PySem.W.exmOne K (.ref (He.ga K "NoWork")) (.ref (He.ga K "NoNumber")) = some false) && decide (PySem.W.exmOne K (.ref (He.ga K "NoWork")) (.ref (He.ga K "BadAnswer")) = some false) && decide (PySem.W.exmOne K (.ref (He.ga K "NoWork")) (.ref (He.ga K "AllKnown")) = some false) && decide (PySem.W.exmOne K (.ref (He.ga K "OtherWorks")) (.ref (He.ga K "BadPair")) = some false) && decide (PySem.W.exmOne K (.ref (He.ga K "OtherWorks")) (.ref (He.ga K "BadText")) = some false) && decide (PySem.W.exmOne K (.ref (He.ga K "OtherWorks")) (.ref (He.ga K "BadLine")) = some false) && decide (PySem.W.exmOne K (.ref (He.ga K "OtherWorks")) (.ref (He.ga K "NoWork")) = some false) && decide (PySem.W.exmOne K (.ref (He.ga K "OtherWorks")) (.ref (He.ga K "OtherWorks")) = some true) && decide (PySem.W.exmOne K (.ref (He.ga K "OtherWorks")) (.ref (He.ga K "NoPlace")) = some false) && decide (PySem.W.exmOne K (.ref (He.ga K "OtherWorks")) (.ref (He.ga K "NothingDone")) = some false) && decide (PySem.W.exmOne K (.ref (He.ga K "OtherWorks")) (.ref (He.ga K "Known")) = some false) && decide (PySem.W.exmOne K (.ref (He.ga K "OtherWorks")) (.ref (He.ga K "NoPlan")) = some false) && decide (PySem.W.exmOne K (.ref (He.ga K "OtherWorks")) (.ref (He.ga K "NoNumber")) = some false) && decide (PySem.W.exmOne K (.ref (He.ga K "OtherWorks")) (.ref (He.ga K "BadAnswer")) = some false) && decide (PySem.W.exmOne K (.ref (He.ga K "OtherWorks")) (.ref (He.ga K "AllKnown")) = some false) && decide (PySem.W.exmOne K (.ref (He.ga K "NoPlace")) (.ref (He.ga K "BadPair")) = some false) && decide (PySem.W.exmOne K (.ref (He.ga K "NoPlace")) (.ref (He.ga K "BadText")) = some false) && decide (PySem.W.exmOne K (.ref (He.ga K "NoPlace")) (.ref (He.ga K "BadLine")) = some false) && decide (PySem.W.exmOne K (.ref (He.ga K "NoPlace")) (.ref (He.ga K "NoWork")) = some false) && decide (PySem.W.exmOne K (.ref (He.ga K "NoPlace")) (.ref (He.ga K "OtherWorks")) = some false) && decide (PySem.W.exmOne K (.ref (He.ga K "NoPlace")) (.ref (He.ga K "NoPlace")) = some true) && decide (PySem.W.exmOne K (.ref (He.ga K "NoPlace")) (.ref (He.ga K "NothingDone")) = some false) && decide (PySem.W.exmOne K (.ref (He.ga K "NoPlace")) (.ref (He.ga K "Known")) = some false) && decide (PySem.W.exmOne K (.ref (He.ga K "NoPlace")) (.ref (He.ga K "NoPlan")) = some false) && decide (PySem.W.exmOne K (.ref (He.ga K "NoPlace")) (.ref (He.ga K "NoNumber")) = some false) && decide (PySem.W.exmOne K (.ref (He.ga K "NoPlace")) (.ref (He.ga K "BadAnswer")) = some false) && decide (PySem.W.exmOne K (.ref (He.ga K "NoPlace")) (.ref (He.ga K "AllKnown")) = some false) && decide (PySem.W.exmOne K (.ref (He.ga K "NothingDone")) (.ref (He.ga K "BadPair")) = some false) && decide (PySem.W.exmOne K (.ref (He.ga K "NothingDone")) (.ref (He.ga K "BadText")) = some false) && decide (PySem.W.exmOne K (.ref (He.ga K "NothingDone")) (.ref (He.ga K "BadLine")) = some false) && decide (PySem.W.exmOne K (.ref (He.ga K "NothingDone")) (.ref (He.ga K "NoWork")) = some false) && decide (PySem.W.exmOne K (.ref (He.ga K "NothingDone")) (.ref (He.ga K "OtherWorks")) = some false) && decide (PySem.W.exmOne K (.ref (He.ga K "NothingDone")) (.ref (He.ga K "NoPlace")) = some false) && decide (PySem.W.exmOne K (.ref (He.ga K "NothingDone")) (.ref (He.ga K "NothingDone")) = some true) && decide (PySem.W.exmOne K (.ref (He.ga K "NothingDone")) (.ref (He.ga K "Known")) = some false) && decide (PySem.W.exmOne K (.ref (He.ga K "NothingDone")) (.ref (He.ga K "NoPlan")) = some false) && decide (PySem.W.exmOne K (.ref (He.ga K "NothingDone")) (.ref (He.ga K "NoNumber")) = some false) && decide (PySem.W.exmOne K (.ref (He.ga K "NothingDone")) (.ref (He.ga K "BadAnswer")) = some false) && decide (PySem.W.exmOne K (.ref (He.ga K "NothingDone")) (.ref (He.ga K "AllKnown")) = some false) && decide (PySem.W.exmOne K (.ref (He.ga K "Known")) (.ref (He.ga K "BadPair")) = some false) && decide (PySem.W.exmOne K (.ref (He.ga K "Known")) (.ref (He.ga K "BadText")) = some false) && decide (PySem.W.exmOne K (.ref (He.ga K "Known")) (.ref (He.ga K "BadLine")) = some false) && decide (PySem.W.exmOne K (.ref (He.ga K "Known")) (.ref (He.ga K "NoWork")) = some false) && decide (PySem.W.exmOne K (.ref (He.ga K "Known")) (.ref (He.ga K "OtherWorks")) = some false) && decide (PySem.W.exmOne K (.ref (He.ga K "Known")) (.ref (He.ga K "NoPlace")) = some false) && decide (PySem.W.exmOne K (.ref (He.ga K "Known")) (.ref (He.ga K "NothingDone")) = some false) && decide (PySem.W.exmOne K (.ref (He.ga K "Known")) (.ref (He.ga K "Known")) = some true) && decide (PySem.W.exmOne K (.ref (He.ga K "Known")) (.ref (He.ga K "NoPlan")) = some false) && decide (PySem.W.exmOne K (.ref (He.ga K "Known")) (.ref (He.ga K "NoNumber")) = some false) && decide (PySem.W.exmOne K (.ref (He.ga K "Known")) (.ref (He.ga K "BadAnswer")) = some false) && decide (PySem.W.exmOne K (.ref (He.ga K "Known")) (.ref (He.ga K "AllKnown")) = some false) && decide (PySem.W.exmOne K (.ref (He.ga K "NoPlan")) (.ref (He.ga K "BadPair")) = some false) && decide (PySem.W.exmOne K (.ref (He.ga K "NoPlan")) (.ref (He.ga K "BadText")) = some false) && decide (PySem.W.exmOne K (.ref (He.ga K "NoPlan")) (.ref (He.ga K "BadLine")) = some false) && decide (PySem.W.exmOne K (.ref (He.ga K "NoPlan")) (.ref (He.ga K "NoWork")) = some false) && decide (PySem.W.exmOne K (.ref (He.ga K "NoPlan")) (.ref (He.ga K "OtherWorks")) = some false) && decide (PySem.W.exmOne K (.ref (He.ga K "NoPlan")) (.ref (He.ga K "NoPlace")) = some false) && decide (PySem.W.exmOne K (.ref (He.ga K "NoPlan")) (.ref (He.ga K "NothingDone")) = some false) && decide (PySem.W.exmOne K (.ref (He.ga K "NoPlan")) (.ref (He.ga K "Known")) = some false) && decide (PySem.W.exmOne K (.ref (He.ga K "NoPlan")) (.ref (He.ga K "NoPlan")) = some true) && decide (PySem.W.exmOne K (.ref (He.ga K "NoPlan")) (.ref (He.ga K "NoNumber")) = some false) && decide (PySem.W.exmOne K (.ref (He.ga K "NoPlan")) (.ref (He.ga K "BadAnswer")) = some false) && decide (PySem.W.exmOne K (.ref (He.ga K "NoPlan")) (.ref (He.ga K "AllKnown")) = some false) && decide (PySem.W.exmOne K (.ref (He.ga K "NoNumber")) (.ref (He.ga K "BadPair")) = some false) && decide (PySem.W.exmOne K (.ref (He.ga K "NoNumber")) (.ref (He.ga K "BadText")) = some false) && decide (PySem.W.exmOne K (.ref (He.ga K "NoNumber")) (.ref (He.ga K "BadLine")) = some false) && decide (PySem.W.exmOne K (.ref (He.ga K "NoNumber")) (.ref (He.ga K "NoWork")) = some false) && decide (PySem.W.exmOne K (.ref (He.ga K "NoNumber")) (.ref (He.ga K "OtherWorks")) = some false) && decide (PySem.W.exmOne K (.ref (He.ga K "NoNumber")) (.ref (He.ga K "NoPlace")) = some false) && decide (PySem.W.exmOne K (.ref (He.ga K "NoNumber")) (.ref (He.ga K "NothingDone")) = some false) && decide (PySem.W.exmOne K (.ref (He.ga K "NoNumber")) (.ref (He.ga K "Known")) = some false) && decide (PySem.W.exmOne K (.ref (He.ga K "NoNumber")) (.ref (He.ga K "NoPlan")) = some false) && decide (PySem.W.exmOne K (.ref (He.ga K "NoNumber")) (.ref (He.ga K "NoNumber")) = some true) && decide (PySem.W.exmOne K (.ref (He.ga K "NoNumber")) (.ref (He.ga K "BadAnswer")) = some false) && decide (PySem.W.exmOne K (.ref (He.ga K "NoNumber")) (.ref (He.ga K "AllKnown")) = some false) && decide (PySem.W.exmOne K (.ref (He.ga K "BadAnswer")) (.ref (He.ga K "BadPair")) = some false) && decide (PySem.W.exmOne K (.ref (He.ga K "BadAnswer")) (.ref (He.ga K "BadText")) = some false) && decide (PySem.W.exmOne K (.ref (He.ga K "BadAnswer")) (.ref (He.ga K "BadLine")) = some false) && decide (PySem.W.exmOne K (.ref (He.ga K "BadAnswer")) (.ref (He.ga K "NoWork")) = some false) && decide (PySem.W.exmOne K (.ref (He.ga K "BadAnswer")) (.ref (He.ga K "OtherWorks")) = some false) && decide (PySem.W.exmOne K (.ref (He.ga K "BadAnswer")) (.ref (He.ga K "NoPlace")) = some false) && decide (PySem.W.exmOne K (.ref (He.ga K "BadAnswer")) (.ref (He.ga K "NothingDone")) = some false) && decide (PySem.W.exmOne K (.ref (He.ga K "BadAnswer")) (.ref (He.ga K "Known")) = some false) && decide (PySem.W.exmOne K (.ref (He.ga K "BadAnswer")) (.ref (He.ga K "NoPlan")) = some false) && decide (PySem.W.exmOne K (.ref (He.ga K "BadAnswer")) (.ref (He.ga K "NoNumber")) = some false) && decide (PySem.W.exmOne K (.ref (He.ga K "BadAnswer")) (.ref (He.ga K "BadAnswer")) = some true) && decide (PySem.W.exmOne K (.ref (He.ga K "BadAnswer")) (.ref (He.ga K "AllKnown")) = some false) && decide (PySem.W.exmOne K (.ref (He.ga K "AllKnown")) (.ref (He.ga K "BadPair")) = some false) && decide (PySem.W.exmOne K (.ref (He.ga K "AllKnown")) (.ref (He.ga K "BadText")) = some false) && decide (PySem.W.exmOne K (.ref (He.ga K "AllKnown")) (.ref (He.ga K "BadLine")) = some false) && decide (PySem.W.exmOne K (.ref (He.ga K "AllKnown")) (.ref (He.ga K "NoWork")) = some false) && decide (PySem.W.exmOne K (.ref (He.ga K "AllKnown")) (.ref (He.ga K "OtherWorks")) = some false) && decide (PySem.W.exmOne K (.ref (He.ga K "AllKnown")) (.ref (He.ga K "NoPlace")) = some false) && decide (PySem.W.exmOne K (.ref (He.ga K "AllKnown")) (.ref (He.ga K "NothingDone")) = some false) && decide (PySem.W.exmOne K (.ref (He.ga K "AllKnown")) (.ref (He.ga K "Known")) = some false) && decide (PySem.W.exmOne K (.ref (He.ga K "AllKnown")) (.ref (He.ga K "NoPlan")) = some false) && decide (PySem.W.exmOne K (.ref (He.ga K "AllKnown")) (.ref (He.ga K "NoNumber")) = some false) && decide (PySem.W.exmOne K (.ref (He.ga K "AllKnown")) (.ref (He.ga K "BadAnswer")) = some false) && decide (PySem.W.exmOne K (.ref (He.ga K "AllKnown")) (.ref (He.ga K "AllKnown")) = some true)
abbrev Says0 (K : PySem.W.Frag) : Prop := Eh.SaysY fa fn ex K
theorem e0 {K : PySem.W.Frag} {h : Heap} {mg : Str → Option Value} (X : K.In h) (G : h.Ns mainGlobals mg) (c : Says0 K) : ∃ fd, DefAt K mg g T 0 f0 "_law_box" ["script", "k"] (He.fAd K ("_law_box", none)) fd := by
  obtain ⟨fd, F⟩ := c.1.def_ 0 (d := d0) rfl
  refine ⟨fd, _, _, _, _, [], N0, F, s0, rfl, rfl, c0, He.glo_ok X G (c.1.fact 0 (f := .glo "_law_box") rfl), fun _ _ _ _ _ _ us hl => ?_, fun _ _ _ _ _ _ us ws hl => ?_⟩
  · match us, hl with
    | [a0, a1], _ => rfl
  · obtain ⟨l, j, h1, h2, rfl, rfl⟩ := split_list hl
    match l, h1, j, h2 with
    | [a0, a1], _, 0, _ => rfl
    | [a0, a1], _, 1, _ => rfl
    | [a0, a1], _, 2, _ => rfl
    | [a0, a1], _, j + 3, h2 => exact absurd h2 (by simp)
theorem e1 {K : PySem.W.Frag} {h : Heap} {mg : Str → Option Value} (X : K.In h) (G : h.Ns mainGlobals mg) (c : Says0 K) : ∃ fd, DefAt K mg g T 1 f1 "_law_take" ["box", "size_so"] (He.fAd K ("_law_take", none)) fd := by
  obtain ⟨fd, F⟩ := c.1.def_ 1 (d := d1) rfl
  refine ⟨fd, _, _, _, _, [], N1, F, s1, rfl, rfl, c1, He.glo_ok X G (c.1.fact 1 (f := .glo "_law_take") rfl), fun _ _ _ _ _ _ us hl => ?_, fun _ _ _ _ _ _ us ws hl => ?_⟩
  · match us, hl with
    | [a0, a1], _ => rfl
  · obtain ⟨l, j, h1, h2, rfl, rfl⟩ := split_list hl
    match l, h1, j, h2 with
    | [a0, a1], _, 0, _ => rfl
    | [a0, a1], _, 1, _ => rfl
    | [a0, a1], _, 2, _ => rfl
    | [a0, a1], _, j + 3, h2 => exact absurd h2 (by simp)
theorem e2 {K : PySem.W.Frag} {h : Heap} {mg : Str → Option Value} (X : K.In h) (G : h.Ns mainGlobals mg) (c : Says0 K) : ∃ fd, DefAt K mg g T 2 f2 "_law_cells" ["script", "top_so"] (He.fAd K ("_law_cells", none)) fd := by
  obtain ⟨fd, F⟩ := c.1.def_ 2 (d := d2) rfl
  refine ⟨fd, _, _, _, _, [], N2, F, s2, rfl, rfl, c2, He.glo_ok X G (c.1.fact 2 (f := .glo "_law_cells") rfl), fun _ _ _ _ _ _ us hl => ?_, fun _ _ _ _ _ _ us ws hl => ?_⟩
  · match us, hl with
    | [a0, a1], _ => rfl
  · obtain ⟨l, j, h1, h2, rfl, rfl⟩ := split_list hl
    match l, h1, j, h2 with
    | [a0, a1], _, 0, _ => rfl
    | [a0, a1], _, 1, _ => rfl
    | [a0, a1], _, 2, _ => rfl
    | [a0, a1], _, j + 3, h2 => exact absurd h2 (by simp)
theorem e3 {K : PySem.W.Frag} {h : Heap} {mg : Str → Option Value} (X : K.In h) (G : h.Ns mainGlobals mg) (c : Says0 K) : ∃ fd, DefAt K mg g T 3 f3 "_law_of" ["box", "goods_so"] (He.fAd K ("_law_of", none)) fd := by
  obtain ⟨fd, F⟩ := c.1.def_ 3 (d := d3) rfl
  refine ⟨fd, _, _, _, _, [], N3, F, s3, rfl, rfl, c3, He.glo_ok X G (c.1.fact 3 (f := .glo "_law_of") rfl), fun _ _ _ _ _ _ us hl => ?_, fun _ _ _ _ _ _ us ws hl => ?_⟩
  · match us, hl with
    | [a0, a1], _ => rfl
  · obtain ⟨l, j, h1, h2, rfl, rfl⟩ := split_list hl
    match l, h1, j, h2 with
    | [a0, a1], _, 0, _ => rfl
    | [a0, a1], _, 1, _ => rfl
    | [a0, a1], _, 2, _ => rfl
    | [a0, a1], _, j + 3, h2 => exact absurd h2 (by simp)
theorem e4 {K : PySem.W.Frag} {h : Heap} {mg : Str → Option Value} (X : K.In h) (G : h.Ns mainGlobals mg) (c : Says0 K) : ∃ fd, DefAt K mg g T 4 f4 "_law_same" ["got", "due"] (He.fAd K ("_law_same", none)) fd := by
  obtain ⟨fd, F⟩ := c.1.def_ 4 (d := d4) rfl
  refine ⟨fd, _, _, _, _, [], N4, F, s4, rfl, rfl, c4, He.glo_ok X G (c.1.fact 4 (f := .glo "_law_same") rfl), fun _ _ _ _ _ _ us hl => ?_, fun _ _ _ _ _ _ us ws hl => ?_⟩
  · match us, hl with
    | [a0, a1], _ => rfl
  · obtain ⟨l, j, h1, h2, rfl, rfl⟩ := split_list hl
    match l, h1, j, h2 with
    | [a0, a1], _, 0, _ => rfl
    | [a0, a1], _, 1, _ => rfl
    | [a0, a1], _, 2, _ => rfl
    | [a0, a1], _, j + 3, h2 => exact absurd h2 (by simp)
theorem e5 {K : PySem.W.Frag} {h : Heap} {mg : Str → Option Value} (X : K.In h) (G : h.Ns mainGlobals mg) (c : Says0 K) : ∃ fd, DefAt K mg g T 5 f5 "_law_sorts" ["caught"] (He.fAd K ("_law_sorts", none)) fd := by
  obtain ⟨fd, F⟩ := c.1.def_ 5 (d := d5) rfl
  refine ⟨fd, _, _, _, _, [], N5, F, s5, rfl, rfl, c5, He.glo_ok X G (c.1.fact 5 (f := .glo "_law_sorts") rfl), fun _ _ _ _ _ _ us hl => ?_, fun _ _ _ _ _ _ us ws hl => ?_⟩
  · match us, hl with
    | [a0], _ => rfl
  · obtain ⟨l, j, h1, h2, rfl, rfl⟩ := split_list hl
    match l, h1, j, h2 with
    | [a0], _, 0, _ => rfl
    | [a0], _, 1, _ => rfl
    | [a0], _, j + 2, h2 => exact absurd h2 (by simp)
theorem e6 {K : PySem.W.Frag} {h : Heap} {mg : Str → Option Value} (X : K.In h) (G : h.Ns mainGlobals mg) (c : Says0 K) : ∃ fd, DefAt K mg g T 6 f6 "_law_right" ["box"] (He.fAd K ("_law_right", none)) fd := by
  obtain ⟨fd, F⟩ := c.1.def_ 6 (d := d6) rfl
  refine ⟨fd, _, _, _, _, [], N6, F, s6, rfl, rfl, c6, He.glo_ok X G (c.1.fact 6 (f := .glo "_law_right") rfl), fun _ _ _ _ _ _ us hl => ?_, fun _ _ _ _ _ _ us ws hl => ?_⟩
  · match us, hl with
    | [a0], _ => rfl
  · obtain ⟨l, j, h1, h2, rfl, rfl⟩ := split_list hl
    match l, h1, j, h2 with
    | [a0], _, 0, _ => rfl
    | [a0], _, 1, _ => rfl
    | [a0], _, j + 2, h2 => exact absurd h2 (by simp)
theorem e7 {K : PySem.W.Frag} {h : Heap} {mg : Str → Option Value} (X : K.In h) (G : h.Ns mainGlobals mg) (c : Says0 K) : ∃ fd, DefAt K mg g T 7 f7 "law" ["script"] (He.fAd K ("law", none)) fd := by
  obtain ⟨fd, F⟩ := c.1.def_ 7 (d := d7) rfl
  refine ⟨fd, _, _, _, _, [], N7, F, s7, rfl, rfl, c7, He.glo_ok X G (c.1.fact 7 (f := .glo "law") rfl), fun _ _ _ _ _ _ us hl => ?_, fun _ _ _ _ _ _ us ws hl => ?_⟩
  · match us, hl with
    | [a0], _ => rfl
  · obtain ⟨l, j, h1, h2, rfl, rfl⟩ := split_list hl
    match l, h1, j, h2 with
    | [a0], _, 0, _ => rfl
    | [a0], _, 1, _ => rfl
    | [a0], _, j + 2, h2 => exact absurd h2 (by simp)
abbrev M (K : PySem.W.Frag) : Mx := ⟨K, fun f => (T.fn f).map fun p => He.ga K p.1, fun c => (T.cl c).map fun x => He.ga K x, fun c => match g.xf c with | some f => [f] | none => []⟩
theorem y0 {K : PySem.W.Frag} {h : Heap} {mg : Str → Option Value} (X : K.In h) (G : h.Ns mainGlobals mg) (c : Says0 K) (P : Program) (w : World) (base : Heap) : Eh.XCls P w K mg base "BadPair" "place" (He.ga K "BadPair") := by
  have hx : Eh.xclsB K "BadPair" "place" = true := by
    have z := c.2
    simp only [ex, Bool.and_eq_true] at z
    simp only [z]
  obtain ⟨fd, F⟩ := c.1.def_ 8 (d := x0) rfl
  refine Eh.xcls_ok X G hx (by decide) F ⟨rfl, rfl, rfl, by decide +kernel, rfl, by decide +kernel, by decide +kernel⟩ (by decide +kernel) (by decide +kernel) (by decide +kernel) (by decide +kernel) (fun _ _ _ _ _ _ us hl => ?_) fun _ _ _ _ _ _ u v => ?_
  · match us, hl with
    | [a0, a1], _ => rfl
  · rfl
theorem y1 {K : PySem.W.Frag} {h : Heap} {mg : Str → Option Value} (X : K.In h) (G : h.Ns mainGlobals mg) (c : Says0 K) (P : Program) (w : World) (base : Heap) : Eh.XCls P w K mg base "BadText" "piece" (He.ga K "BadText") := by
  have hx : Eh.xclsB K "BadText" "piece" = true := by
    have z := c.2
    simp only [ex, Bool.and_eq_true] at z
    simp only [z]
  obtain ⟨fd, F⟩ := c.1.def_ 9 (d := x1) rfl
  refine Eh.xcls_ok X G hx (by decide) F ⟨rfl, rfl, rfl, by decide +kernel, rfl, by decide +kernel, by decide +kernel⟩ (by decide +kernel) (by decide +kernel) (by decide +kernel) (by decide +kernel) (fun _ _ _ _ _ _ us hl => ?_) fun _ _ _ _ _ _ u v => ?_
  · match us, hl with
    | [a0, a1], _ => rfl
  · rfl
theorem y2 {K : PySem.W.Frag} {h : Heap} {mg : Str → Option Value} (X : K.In h) (G : h.Ns mainGlobals mg) (c : Says0 K) (P : Program) (w : World) (base : Heap) : Eh.XCls P w K mg base "BadLine" "number" (He.ga K "BadLine") := by
  have hx : Eh.xclsB K "BadLine" "number" = true := by
    have z := c.2
    simp only [ex, Bool.and_eq_true] at z
    simp only [z]
  obtain ⟨fd, F⟩ := c.1.def_ 10 (d := x2) rfl
  refine Eh.xcls_ok X G hx (by decide) F ⟨rfl, rfl, rfl, by decide +kernel, rfl, by decide +kernel, by decide +kernel⟩ (by decide +kernel) (by decide +kernel) (by decide +kernel) (by decide +kernel) (fun _ _ _ _ _ _ us hl => ?_) fun _ _ _ _ _ _ u v => ?_
  · match us, hl with
    | [a0, a1], _ => rfl
  · rfl
theorem y3 {K : PySem.W.Frag} {h : Heap} {mg : Str → Option Value} (X : K.In h) (G : h.Ns mainGlobals mg) (c : Says0 K) (P : Program) (w : World) (base : Heap) : Eh.XCls P w K mg base "NoWork" "name" (He.ga K "NoWork") := by
  have hx : Eh.xclsB K "NoWork" "name" = true := by
    have z := c.2
    simp only [ex, Bool.and_eq_true] at z
    simp only [z]
  obtain ⟨fd, F⟩ := c.1.def_ 11 (d := x3) rfl
  refine Eh.xcls_ok X G hx (by decide) F ⟨rfl, rfl, rfl, by decide +kernel, rfl, by decide +kernel, by decide +kernel⟩ (by decide +kernel) (by decide +kernel) (by decide +kernel) (by decide +kernel) (fun _ _ _ _ _ _ us hl => ?_) fun _ _ _ _ _ _ u v => ?_
  · match us, hl with
    | [a0, a1], _ => rfl
  · rfl
theorem y4 {K : PySem.W.Frag} {h : Heap} {mg : Str → Option Value} (X : K.In h) (G : h.Ns mainGlobals mg) (c : Says0 K) (P : Program) (w : World) (base : Heap) : Eh.XCls0 P w K mg base "OtherWorks" "given" (He.ga K "OtherWorks") := by
  have hx : Eh.xclsB K "OtherWorks" "given" = true := by
    have z := c.2
    simp only [ex, Bool.and_eq_true] at z
    simp only [z]
  obtain ⟨fd, F⟩ := c.1.def_ 12 (d := x4) rfl
  refine Eh.xcls0_ok X G hx (by decide) F ⟨rfl, rfl, rfl, by decide +kernel, rfl, by decide +kernel, by decide +kernel⟩ (by decide +kernel) (by decide +kernel) fun _ _ _ _ _ _ us hl => ?_
  match us, hl with
  | [a0], _ => rfl
theorem y5 {K : PySem.W.Frag} {h : Heap} {mg : Str → Option Value} (X : K.In h) (G : h.Ns mainGlobals mg) (c : Says0 K) (P : Program) (w : World) (base : Heap) : Eh.XCls P w K mg base "NoPlace" "number" (He.ga K "NoPlace") := by
  have hx : Eh.xclsB K "NoPlace" "number" = true := by
    have z := c.2
    simp only [ex, Bool.and_eq_true] at z
    simp only [z]
  obtain ⟨fd, F⟩ := c.1.def_ 13 (d := x5) rfl
  refine Eh.xcls_ok X G hx (by decide) F ⟨rfl, rfl, rfl, by decide +kernel, rfl, by decide +kernel, by decide +kernel⟩ (by decide +kernel) (by decide +kernel) (by decide +kernel) (by decide +kernel) (fun _ _ _ _ _ _ us hl => ?_) fun _ _ _ _ _ _ u v => ?_
  · match us, hl with
    | [a0, a1], _ => rfl
  · rfl
theorem y6 {K : PySem.W.Frag} {h : Heap} {mg : Str → Option Value} (X : K.In h) (G : h.Ns mainGlobals mg) (c : Says0 K) (P : Program) (w : World) (base : Heap) : Eh.XCls0 P w K mg base "NothingDone" "given" (He.ga K "NothingDone") := by
  have hx : Eh.xclsB K "NothingDone" "given" = true := by
    have z := c.2
    simp only [ex, Bool.and_eq_true] at z
    simp only [z]
  obtain ⟨fd, F⟩ := c.1.def_ 14 (d := x6) rfl
  refine Eh.xcls0_ok X G hx (by decide) F ⟨rfl, rfl, rfl, by decide +kernel, rfl, by decide +kernel, by decide +kernel⟩ (by decide +kernel) (by decide +kernel) fun _ _ _ _ _ _ us hl => ?_
  match us, hl with
  | [a0], _ => rfl
theorem y7 {K : PySem.W.Frag} {h : Heap} {mg : Str → Option Value} (X : K.In h) (G : h.Ns mainGlobals mg) (c : Says0 K) (P : Program) (w : World) (base : Heap) : Eh.XCls P w K mg base "Known" "name" (He.ga K "Known") := by
  have hx : Eh.xclsB K "Known" "name" = true := by
    have z := c.2
    simp only [ex, Bool.and_eq_true] at z
    simp only [z]
  obtain ⟨fd, F⟩ := c.1.def_ 15 (d := x7) rfl
  refine Eh.xcls_ok X G hx (by decide) F ⟨rfl, rfl, rfl, by decide +kernel, rfl, by decide +kernel, by decide +kernel⟩ (by decide +kernel) (by decide +kernel) (by decide +kernel) (by decide +kernel) (fun _ _ _ _ _ _ us hl => ?_) fun _ _ _ _ _ _ u v => ?_
  · match us, hl with
    | [a0, a1], _ => rfl
  · rfl
theorem y8 {K : PySem.W.Frag} {h : Heap} {mg : Str → Option Value} (X : K.In h) (G : h.Ns mainGlobals mg) (c : Says0 K) (P : Program) (w : World) (base : Heap) : Eh.XCls P w K mg base "NoPlan" "name" (He.ga K "NoPlan") := by
  have hx : Eh.xclsB K "NoPlan" "name" = true := by
    have z := c.2
    simp only [ex, Bool.and_eq_true] at z
    simp only [z]
  obtain ⟨fd, F⟩ := c.1.def_ 16 (d := x8) rfl
  refine Eh.xcls_ok X G hx (by decide) F ⟨rfl, rfl, rfl, by decide +kernel, rfl, by decide +kernel, by decide +kernel⟩ (by decide +kernel) (by decide +kernel) (by decide +kernel) (by decide +kernel) (fun _ _ _ _ _ _ us hl => ?_) fun _ _ _ _ _ _ u v => ?_
  · match us, hl with
    | [a0, a1], _ => rfl
  · rfl
theorem y9 {K : PySem.W.Frag} {h : Heap} {mg : Str → Option Value} (X : K.In h) (G : h.Ns mainGlobals mg) (c : Says0 K) (P : Program) (w : World) (base : Heap) : Eh.XCls P w K mg base "NoNumber" "number" (He.ga K "NoNumber") := by
  have hx : Eh.xclsB K "NoNumber" "number" = true := by
    have z := c.2
    simp only [ex, Bool.and_eq_true] at z
    simp only [z]
  obtain ⟨fd, F⟩ := c.1.def_ 17 (d := x9) rfl
  refine Eh.xcls_ok X G hx (by decide) F ⟨rfl, rfl, rfl, by decide +kernel, rfl, by decide +kernel, by decide +kernel⟩ (by decide +kernel) (by decide +kernel) (by decide +kernel) (by decide +kernel) (fun _ _ _ _ _ _ us hl => ?_) fun _ _ _ _ _ _ u v => ?_
  · match us, hl with
    | [a0, a1], _ => rfl
  · rfl
theorem y10 {K : PySem.W.Frag} {h : Heap} {mg : Str → Option Value} (X : K.In h) (G : h.Ns mainGlobals mg) (c : Says0 K) (P : Program) (w : World) (base : Heap) : Eh.XCls P w K mg base "BadAnswer" "answer" (He.ga K "BadAnswer") := by
  have hx : Eh.xclsB K "BadAnswer" "answer" = true := by
    have z := c.2
    simp only [ex, Bool.and_eq_true] at z
    simp only [z]
  obtain ⟨fd, F⟩ := c.1.def_ 18 (d := x10) rfl
  refine Eh.xcls_ok X G hx (by decide) F ⟨rfl, rfl, rfl, by decide +kernel, rfl, by decide +kernel, by decide +kernel⟩ (by decide +kernel) (by decide +kernel) (by decide +kernel) (by decide +kernel) (fun _ _ _ _ _ _ us hl => ?_) fun _ _ _ _ _ _ u v => ?_
  · match us, hl with
    | [a0, a1], _ => rfl
  · rfl
theorem y11 {K : PySem.W.Frag} {h : Heap} {mg : Str → Option Value} (X : K.In h) (G : h.Ns mainGlobals mg) (c : Says0 K) (P : Program) (w : World) (base : Heap) : Eh.XCls0 P w K mg base "AllKnown" "given" (He.ga K "AllKnown") := by
  have hx : Eh.xclsB K "AllKnown" "given" = true := by
    have z := c.2
    simp only [ex, Bool.and_eq_true] at z
    simp only [z]
  obtain ⟨fd, F⟩ := c.1.def_ 19 (d := x11) rfl
  refine Eh.xcls0_ok X G hx (by decide) F ⟨rfl, rfl, rfl, by decide +kernel, rfl, by decide +kernel, by decide +kernel⟩ (by decide +kernel) (by decide +kernel) fun _ _ _ _ _ _ us hl => ?_
  match us, hl with
  | [a0], _ => rfl
theorem topOk {K : PySem.W.Frag} {h : Heap} {mg : Str → Option Value} (X : K.In h) (G : h.Ns mainGlobals mg) (c : Says0 K) : TopOk K mg g T (M K) := by
  refine ⟨rfl, fun f fd hf => ?_, fun x hx => ?_, fun f x ps a h1 h2 => ?_, fun k f h => ?_, fun k' k b C' C h h1 h2 => ?_, ?_, fun i d x h1 h2 => ?_⟩
  · match f, hf with
    | 0, hf =>
      cases hf
      obtain ⟨fd, e⟩ := e0 X G c
      exact ⟨_, _, _, fd, rfl, e⟩
    | 1, hf =>
      cases hf
      obtain ⟨fd, e⟩ := e1 X G c
      exact ⟨_, _, _, fd, rfl, e⟩
    | 2, hf =>
      cases hf
      obtain ⟨fd, e⟩ := e2 X G c
      exact ⟨_, _, _, fd, rfl, e⟩
    | 3, hf =>
      cases hf
      obtain ⟨fd, e⟩ := e3 X G c
      exact ⟨_, _, _, fd, rfl, e⟩
    | 4, hf =>
      cases hf
      obtain ⟨fd, e⟩ := e4 X G c
      exact ⟨_, _, _, fd, rfl, e⟩
    | 5, hf =>
      cases hf
      obtain ⟨fd, e⟩ := e5 X G c
      exact ⟨_, _, _, fd, rfl, e⟩
    | 6, hf =>
      cases hf
      obtain ⟨fd, e⟩ := e6 X G c
      exact ⟨_, _, _, fd, rfl, e⟩
    | 7, hf =>
      cases hf
      obtain ⟨fd, e⟩ := e7 X G c
      exact ⟨_, _, _, fd, rfl, e⟩
    | n + 8, hf => exact nomatch (show (none : Option Fn) = some fd from hf)
  · simp only [blNames, List.mem_cons, List.not_mem_nil, or_false] at hx
    rcases hx with rfl | rfl | rfl | rfl | rfl | rfl | rfl | rfl | rfl | rfl | rfl | rfl | rfl | rfl | rfl | rfl | rfl | rfl
    · exact He.free_ok X G (c.1.fact 8 (f := .free "len") rfl)
    · exact He.free_ok X G (c.1.fact 9 (f := .free "abs") rfl)
    · exact He.free_ok X G (c.1.fact 10 (f := .free "int") rfl)
    · exact He.free_ok X G (c.1.fact 11 (f := .free "str") rfl)
    · exact He.free_ok X G (c.1.fact 12 (f := .free "bool") rfl)
    · exact He.free_ok X G (c.1.fact 13 (f := .free "max") rfl)
    · exact He.free_ok X G (c.1.fact 14 (f := .free "min") rfl)
    · exact He.free_ok X G (c.1.fact 15 (f := .free "sum") rfl)
    · exact He.free_ok X G (c.1.fact 16 (f := .free "all") rfl)
    · exact He.free_ok X G (c.1.fact 17 (f := .free "any") rfl)
    · exact He.free_ok X G (c.1.fact 18 (f := .free "sorted") rfl)
    · exact He.free_ok X G (c.1.fact 19 (f := .free "tuple") rfl)
    · exact He.free_ok X G (c.1.fact 20 (f := .free "list") rfl)
    · exact He.free_ok X G (c.1.fact 21 (f := .free "isinstance") rfl)
    · exact He.free_ok X G (c.1.fact 22 (f := .free "range") rfl)
    · exact He.free_ok X G (c.1.fact 23 (f := .free "enumerate") rfl)
    · exact He.free_ok X G (c.1.fact 24 (f := .free "zip") rfl)
    · exact He.free_ok X G (c.1.fact 25 (f := .free "set") rfl)
  · match f, h1 with
    | 0, h1 =>
      cases h1
      have := He.glo_ok X G (c.1.fact 0 (f := .glo "_law_box") rfl)
      rw [h2] at this
      cases this
      rfl
    | 1, h1 =>
      cases h1
      have := He.glo_ok X G (c.1.fact 1 (f := .glo "_law_take") rfl)
      rw [h2] at this
      cases this
      rfl
    | 2, h1 =>
      cases h1
      have := He.glo_ok X G (c.1.fact 2 (f := .glo "_law_cells") rfl)
      rw [h2] at this
      cases this
      rfl
    | 3, h1 =>
      cases h1
      have := He.glo_ok X G (c.1.fact 3 (f := .glo "_law_of") rfl)
      rw [h2] at this
      cases this
      rfl
    | 4, h1 =>
      cases h1
      have := He.glo_ok X G (c.1.fact 4 (f := .glo "_law_same") rfl)
      rw [h2] at this
      cases this
      rfl
    | 5, h1 =>
      cases h1
      have := He.glo_ok X G (c.1.fact 5 (f := .glo "_law_sorts") rfl)
      rw [h2] at this
      cases this
      rfl
    | 6, h1 =>
      cases h1
      have := He.glo_ok X G (c.1.fact 6 (f := .glo "_law_right") rfl)
      rw [h2] at this
      cases this
      rfl
    | 7, h1 =>
      cases h1
      have := He.glo_ok X G (c.1.fact 7 (f := .glo "law") rfl)
      rw [h2] at this
      cases this
      rfl
    | n + 8, h1 => exact nomatch (show (none : Option (Str × List Str)) = some (x, ps) from h1)
  · match k, h with
    | 0, h =>
      cases h
      exact ⟨_, _, rfl, rfl, rfl, y0 X G c⟩
    | 1, h =>
      cases h
      exact ⟨_, _, rfl, rfl, rfl, y1 X G c⟩
    | 2, h =>
      cases h
      exact ⟨_, _, rfl, rfl, rfl, y2 X G c⟩
    | 3, h =>
      cases h
      exact ⟨_, _, rfl, rfl, rfl, y3 X G c⟩
    | 4, h =>
      cases h
      exact ⟨_, _, rfl, rfl, rfl, y4 X G c⟩
    | 5, h =>
      cases h
      exact ⟨_, _, rfl, rfl, rfl, y5 X G c⟩
    | 6, h =>
      cases h
      exact ⟨_, _, rfl, rfl, rfl, y6 X G c⟩
    | 7, h =>
      cases h
      exact ⟨_, _, rfl, rfl, rfl, y7 X G c⟩
    | 8, h =>
      cases h
      exact ⟨_, _, rfl, rfl, rfl, y8 X G c⟩
    | 9, h =>
      cases h
      exact ⟨_, _, rfl, rfl, rfl, y9 X G c⟩
    | 10, h =>
      cases h
      exact ⟨_, _, rfl, rfl, rfl, y10 X G c⟩
    | 11, h =>
      cases h
      exact ⟨_, _, rfl, rfl, rfl, y11 X G c⟩
    | n + 12, h => exact nomatch (show (none : Option Str) = some f from h)
  · have z := c.2
    simp only [ex, Bool.and_eq_true, decide_eq_true_eq] at z
    match k', k, h, h1, h2 with
    | 0, 0, h, h1, h2 =>
      cases h; cases h1; cases h2
      simp only [z]
    | 0, 1, h, h1, h2 =>
      cases h; cases h1; cases h2
      simp only [z]
    | 0, 2, h, h1, h2 =>
      cases h; cases h1; cases h2
      simp only [z]
    | 0, 3, h, h1, h2 =>
      cases h; cases h1; cases h2
      simp only [z]
    | 0, 4, h, h1, h2 =>
      cases h; cases h1; cases h2
      simp only [z]
    | 0, 5, h, h1, h2 =>
      cases h; cases h1; cases h2
      simp only [z]
    | 0, 6, h, h1, h2 =>
      cases h; cases h1; cases h2
      simp only [z]
    | 0, 7, h, h1, h2 =>
      cases h; cases h1; cases h2
      simp only [z]
    | 0, 8, h, h1, h2 =>
      cases h; cases h1; cases h2
      simp only [z]
    | 0, 9, h, h1, h2 =>
      cases h; cases h1; cases h2
      simp only [z]
    | 0, 10, h, h1, h2 =>
      cases h; cases h1; cases h2
      simp only [z]
    | 0, 11, h, h1, h2 =>
      cases h; cases h1; cases h2
      simp only [z]
    | 1, 0, h, h1, h2 =>
      cases h; cases h1; cases h2
      simp only [z]
    | 1, 1, h, h1, h2 =>
      cases h; cases h1; cases h2
      simp only [z]
    | 1, 2, h, h1, h2 =>
      cases h; cases h1; cases h2
      simp only [z]
    | 1, 3, h, h1, h2 =>
      cases h; cases h1; cases h2
      simp only [z]
    | 1, 4, h, h1, h2 =>
      cases h; cases h1; cases h2
      simp only [z]
    | 1, 5, h, h1, h2 =>
      cases h; cases h1; cases h2
      simp only [z]
    | 1, 6, h, h1, h2 =>
      cases h; cases h1; cases h2
      simp only [z]
    | 1, 7, h, h1, h2 =>
      cases h; cases h1; cases h2
      simp only [z]
    | 1, 8, h, h1, h2 =>
      cases h; cases h1; cases h2
      simp only [z]
    | 1, 9, h, h1, h2 =>
      cases h; cases h1; cases h2
      simp only [z]
    | 1, 10, h, h1, h2 =>
      cases h; cases h1; cases h2
      simp only [z]
    | 1, 11, h, h1, h2 =>
      cases h; cases h1; cases h2
      simp only [z]
    | 2, 0, h, h1, h2 =>
      cases h; cases h1; cases h2
      simp only [z]
    | 2, 1, h, h1, h2 =>
      cases h; cases h1; cases h2
      simp only [z]
    | 2, 2, h, h1, h2 =>
      cases h; cases h1; cases h2
      simp only [z]
    | 2, 3, h, h1, h2 =>
      cases h; cases h1; cases h2
      simp only [z]
    | 2, 4, h, h1, h2 =>
      cases h; cases h1; cases h2
      simp only [z]
    | 2, 5, h, h1, h2 =>
      cases h; cases h1; cases h2
      simp only [z]
    | 2, 6, h, h1, h2 =>
      cases h; cases h1; cases h2
      simp only [z]
    | 2, 7, h, h1, h2 =>
      cases h; cases h1; cases h2
      simp only [z]
    | 2, 8, h, h1, h2 =>
      cases h; cases h1; cases h2
      simp only [z]
    | 2, 9, h, h1, h2 =>
      cases h; cases h1; cases h2
      simp only [z]
    | 2, 10, h, h1, h2 =>
      cases h; cases h1; cases h2
      simp only [z]
    | 2, 11, h, h1, h2 =>
      cases h; cases h1; cases h2
      simp only [z]
    | 3, 0, h, h1, h2 =>
      cases h; cases h1; cases h2
      simp only [z]
    | 3, 1, h, h1, h2 =>
      cases h; cases h1; cases h2
      simp only [z]
    | 3, 2, h, h1, h2 =>
      cases h; cases h1; cases h2
      simp only [z]
    | 3, 3, h, h1, h2 =>
      cases h; cases h1; cases h2
      simp only [z]
    | 3, 4, h, h1, h2 =>
      cases h; cases h1; cases h2
      simp only [z]
    | 3, 5, h, h1, h2 =>
      cases h; cases h1; cases h2
      simp only [z]
    | 3, 6, h, h1, h2 =>
      cases h; cases h1; cases h2
      simp only [z]
    | 3, 7, h, h1, h2 =>
      cases h; cases h1; cases h2
      simp only [z]
    | 3, 8, h, h1, h2 =>
      cases h; cases h1; cases h2
      simp only [z]
    | 3, 9, h, h1, h2 =>
      cases h; cases h1; cases h2
      simp only [z]
    | 3, 10, h, h1, h2 =>
      cases h; cases h1; cases h2
      simp only [z]
    | 3, 11, h, h1, h2 =>
      cases h; cases h1; cases h2
      simp only [z]
    | 4, 0, h, h1, h2 =>
      cases h; cases h1; cases h2
      simp only [z]
    | 4, 1, h, h1, h2 =>
      cases h; cases h1; cases h2
      simp only [z]
    | 4, 2, h, h1, h2 =>
      cases h; cases h1; cases h2
      simp only [z]
    | 4, 3, h, h1, h2 =>
      cases h; cases h1; cases h2
      simp only [z]
    | 4, 4, h, h1, h2 =>
      cases h; cases h1; cases h2
      simp only [z]
    | 4, 5, h, h1, h2 =>
      cases h; cases h1; cases h2
      simp only [z]
    | 4, 6, h, h1, h2 =>
      cases h; cases h1; cases h2
      simp only [z]
    | 4, 7, h, h1, h2 =>
      cases h; cases h1; cases h2
      simp only [z]
    | 4, 8, h, h1, h2 =>
      cases h; cases h1; cases h2
      simp only [z]
    | 4, 9, h, h1, h2 =>
      cases h; cases h1; cases h2
      simp only [z]
    | 4, 10, h, h1, h2 =>
      cases h; cases h1; cases h2
      simp only [z]
    | 4, 11, h, h1, h2 =>
      cases h; cases h1; cases h2
      simp only [z]
    | 5, 0, h, h1, h2 =>
      cases h; cases h1; cases h2
      simp only [z]
    | 5, 1, h, h1, h2 =>
      cases h; cases h1; cases h2
      simp only [z]
    | 5, 2, h, h1, h2 =>
      cases h; cases h1; cases h2
      simp only [z]
    | 5, 3, h, h1, h2 =>
      cases h; cases h1; cases h2
      simp only [z]
    | 5, 4, h, h1, h2 =>
      cases h; cases h1; cases h2
      simp only [z]
    | 5, 5, h, h1, h2 =>
      cases h; cases h1; cases h2
      simp only [z]
    | 5, 6, h, h1, h2 =>
      cases h; cases h1; cases h2
      simp only [z]
    | 5, 7, h, h1, h2 =>
      cases h; cases h1; cases h2
      simp only [z]
    | 5, 8, h, h1, h2 =>
      cases h; cases h1; cases h2
      simp only [z]
    | 5, 9, h, h1, h2 =>
      cases h; cases h1; cases h2
      simp only [z]
    | 5, 10, h, h1, h2 =>
      cases h; cases h1; cases h2
      simp only [z]
    | 5, 11, h, h1, h2 =>
      cases h; cases h1; cases h2
      simp only [z]
    | 6, 0, h, h1, h2 =>
      cases h; cases h1; cases h2
      simp only [z]
    | 6, 1, h, h1, h2 =>
      cases h; cases h1; cases h2
      simp only [z]
    | 6, 2, h, h1, h2 =>
      cases h; cases h1; cases h2
      simp only [z]
    | 6, 3, h, h1, h2 =>
      cases h; cases h1; cases h2
      simp only [z]
    | 6, 4, h, h1, h2 =>
      cases h; cases h1; cases h2
      simp only [z]
    | 6, 5, h, h1, h2 =>
      cases h; cases h1; cases h2
      simp only [z]
    | 6, 6, h, h1, h2 =>
      cases h; cases h1; cases h2
      simp only [z]
    | 6, 7, h, h1, h2 =>
      cases h; cases h1; cases h2
      simp only [z]
    | 6, 8, h, h1, h2 =>
      cases h; cases h1; cases h2
      simp only [z]
    | 6, 9, h, h1, h2 =>
      cases h; cases h1; cases h2
      simp only [z]
    | 6, 10, h, h1, h2 =>
      cases h; cases h1; cases h2
      simp only [z]
    | 6, 11, h, h1, h2 =>
      cases h; cases h1; cases h2
      simp only [z]
    | 7, 0, h, h1, h2 =>
      cases h; cases h1; cases h2
      simp only [z]
    | 7, 1, h, h1, h2 =>
      cases h; cases h1; cases h2
      simp only [z]
    | 7, 2, h, h1, h2 =>
      cases h; cases h1; cases h2
      simp only [z]
    | 7, 3, h, h1, h2 =>
      cases h; cases h1; cases h2
      simp only [z]
    | 7, 4, h, h1, h2 =>
      cases h; cases h1; cases h2
      simp only [z]
    | 7, 5, h, h1, h2 =>
      cases h; cases h1; cases h2
      simp only [z]
    | 7, 6, h, h1, h2 =>
      cases h; cases h1; cases h2
      simp only [z]
    | 7, 7, h, h1, h2 =>
      cases h; cases h1; cases h2
      simp only [z]
    | 7, 8, h, h1, h2 =>
      cases h; cases h1; cases h2
      simp only [z]
    | 7, 9, h, h1, h2 =>
      cases h; cases h1; cases h2
      simp only [z]
    | 7, 10, h, h1, h2 =>
      cases h; cases h1; cases h2
      simp only [z]
    | 7, 11, h, h1, h2 =>
      cases h; cases h1; cases h2
      simp only [z]
    | 8, 0, h, h1, h2 =>
      cases h; cases h1; cases h2
      simp only [z]
    | 8, 1, h, h1, h2 =>
      cases h; cases h1; cases h2
      simp only [z]
    | 8, 2, h, h1, h2 =>
      cases h; cases h1; cases h2
      simp only [z]
    | 8, 3, h, h1, h2 =>
      cases h; cases h1; cases h2
      simp only [z]
    | 8, 4, h, h1, h2 =>
      cases h; cases h1; cases h2
      simp only [z]
    | 8, 5, h, h1, h2 =>
      cases h; cases h1; cases h2
      simp only [z]
    | 8, 6, h, h1, h2 =>
      cases h; cases h1; cases h2
      simp only [z]
    | 8, 7, h, h1, h2 =>
      cases h; cases h1; cases h2
      simp only [z]
    | 8, 8, h, h1, h2 =>
      cases h; cases h1; cases h2
      simp only [z]
    | 8, 9, h, h1, h2 =>
      cases h; cases h1; cases h2
      simp only [z]
    | 8, 10, h, h1, h2 =>
      cases h; cases h1; cases h2
      simp only [z]
    | 8, 11, h, h1, h2 =>
      cases h; cases h1; cases h2
      simp only [z]
    | 9, 0, h, h1, h2 =>
      cases h; cases h1; cases h2
      simp only [z]
    | 9, 1, h, h1, h2 =>
      cases h; cases h1; cases h2
      simp only [z]
    | 9, 2, h, h1, h2 =>
      cases h; cases h1; cases h2
      simp only [z]
    | 9, 3, h, h1, h2 =>
      cases h; cases h1; cases h2
      simp only [z]
    | 9, 4, h, h1, h2 =>
      cases h; cases h1; cases h2
      simp only [z]
    | 9, 5, h, h1, h2 =>
      cases h; cases h1; cases h2
      simp only [z]
    | 9, 6, h, h1, h2 =>
      cases h; cases h1; cases h2
      simp only [z]
    | 9, 7, h, h1, h2 =>
      cases h; cases h1; cases h2
      simp only [z]
    | 9, 8, h, h1, h2 =>
      cases h; cases h1; cases h2
      simp only [z]
    | 9, 9, h, h1, h2 =>
      cases h; cases h1; cases h2
      simp only [z]
    | 9, 10, h, h1, h2 =>
      cases h; cases h1; cases h2
      simp only [z]
    | 9, 11, h, h1, h2 =>
      cases h; cases h1; cases h2
      simp only [z]
    | 10, 0, h, h1, h2 =>
      cases h; cases h1; cases h2
      simp only [z]
    | 10, 1, h, h1, h2 =>
      cases h; cases h1; cases h2
      simp only [z]
    | 10, 2, h, h1, h2 =>
      cases h; cases h1; cases h2
      simp only [z]
    | 10, 3, h, h1, h2 =>
      cases h; cases h1; cases h2
      simp only [z]
    | 10, 4, h, h1, h2 =>
      cases h; cases h1; cases h2
      simp only [z]
    | 10, 5, h, h1, h2 =>
      cases h; cases h1; cases h2
      simp only [z]
    | 10, 6, h, h1, h2 =>
      cases h; cases h1; cases h2
      simp only [z]
    | 10, 7, h, h1, h2 =>
      cases h; cases h1; cases h2
      simp only [z]
    | 10, 8, h, h1, h2 =>
      cases h; cases h1; cases h2
      simp only [z]
    | 10, 9, h, h1, h2 =>
      cases h; cases h1; cases h2
      simp only [z]
    | 10, 10, h, h1, h2 =>
      cases h; cases h1; cases h2
      simp only [z]
    | 10, 11, h, h1, h2 =>
      cases h; cases h1; cases h2
      simp only [z]
    | 11, 0, h, h1, h2 =>
      cases h; cases h1; cases h2
      simp only [z]
    | 11, 1, h, h1, h2 =>
      cases h; cases h1; cases h2
      simp only [z]
    | 11, 2, h, h1, h2 =>
      cases h; cases h1; cases h2
      simp only [z]
    | 11, 3, h, h1, h2 =>
      cases h; cases h1; cases h2
      simp only [z]
    | 11, 4, h, h1, h2 =>
      cases h; cases h1; cases h2
      simp only [z]
    | 11, 5, h, h1, h2 =>
      cases h; cases h1; cases h2
      simp only [z]
    | 11, 6, h, h1, h2 =>
      cases h; cases h1; cases h2
      simp only [z]
    | 11, 7, h, h1, h2 =>
      cases h; cases h1; cases h2
      simp only [z]
    | 11, 8, h, h1, h2 =>
      cases h; cases h1; cases h2
      simp only [z]
    | 11, 9, h, h1, h2 =>
      cases h; cases h1; cases h2
      simp only [z]
    | 11, 10, h, h1, h2 =>
      cases h; cases h1; cases h2
      simp only [z]
    | 11, 11, h, h1, h2 =>
      cases h; cases h1; cases h2
      simp only [z]
    | n + 12, m, h, _, _ => exact nomatch (show (none : Option Bool) = some b from h)
    | 0, m + 12, h, _, _ => exact nomatch (show (none : Option Bool) = some b from h)
    | 1, m + 12, h, _, _ => exact nomatch (show (none : Option Bool) = some b from h)
    | 2, m + 12, h, _, _ => exact nomatch (show (none : Option Bool) = some b from h)
    | 3, m + 12, h, _, _ => exact nomatch (show (none : Option Bool) = some b from h)
    | 4, m + 12, h, _, _ => exact nomatch (show (none : Option Bool) = some b from h)
    | 5, m + 12, h, _, _ => exact nomatch (show (none : Option Bool) = some b from h)
    | 6, m + 12, h, _, _ => exact nomatch (show (none : Option Bool) = some b from h)
    | 7, m + 12, h, _, _ => exact nomatch (show (none : Option Bool) = some b from h)
    | 8, m + 12, h, _, _ => exact nomatch (show (none : Option Bool) = some b from h)
    | 9, m + 12, h, _, _ => exact nomatch (show (none : Option Bool) = some b from h)
    | 10, m + 12, h, _, _ => exact nomatch (show (none : Option Bool) = some b from h)
    | 11, m + 12, h, _, _ => exact nomatch (show (none : Option Bool) = some b from h)
  · have z := c.2
    simp only [ex, Bool.and_eq_true] at z
    exact Eh.xi_ok (cn := T.cl) X G (He.free_ok X G (c.1.fact 26 (f := .free "ValueError") rfl)) (by simp only [z]) rfl fun k c h => by show (T.cl k).map _ = _; rw [h]; rfl
  · match i, h1, h2 with
    | n + 0, h1, h2 => exact nomatch (show (none : Option D) = some d from h1)
def loose0 : List Str := ["_law_box", "_law_take", "_law_cells", "_law_of", "_law_same", "_law_sorts", "_law_right", "PlanError", "BadPair", "BadText", "BadLine", "NoWork", "OtherWorks", "NoPlace", "NothingDone", "Known", "NoPlan", "NoNumber", "BadAnswer", "AllKnown"]
def loose : List Str := loose0
abbrev Rw : PySem.W.OpenRow := PySem.W.OpenLaw.row PySem.Challenge.rw_lateplans_k00_errors
abbrev hk : PySem.W.Hook := Eh.hookY 5 fa fn ex
def ob (s : PySem.W.SharedT) : Eh.AlY := Eh.obsY 5 fa fn ex (HandSHeadRun.getT s)
theorem ob_eq (s : PySem.W.SharedT) : ob s = hk.obs s.abs := Eh.obsY_eq (HandSHeadRun.getT_eq s)
theorem run (w : World) : HandSHeadRun.RunEq Rw (PySem.W.view Rw.prog [22]) hk ob 4000 loose w := by
  intro os
  kernel_rfl
/-- the law, by the evaluator -/
def Says : Prop := ∀ ns : List Int, ns.length ≤ 63 → ∃ n ρ, evCall g n 100 7 [.fz (.lst (ns.map .int))] = some (.ok (.fz (.bl true)) ρ)
theorem facts (says : Says) {P : Program} {w : World} {K : PySem.W.Frag} {h : Heap} {mg : Str → Option Value} {f : Addr} (X : K.In h) (G : h.Ns mainGlobals mg) (hfa : mg ("law" : Str) = some (.ref f)) (c : Says0 K) :
    ∃ (fd : FuncData) (sp : Sp), (∀ (s : Shared) (v : Value), BindsTo s fd ⟨[v], []⟩ [("script", v)]) ∧ (∀ (H : Hp) (a : Addr) (ns : List Int), ns.length ≤ 63 → SqL K H a (ns.map V.int) → sp [.ref a] H (fun v _ => v = .bl true) fun _ _ _ => False) ∧
      ∀ base : Heap, K.In base → base.Ns mainGlobals mg → FnOk P w K mg base (anyCX P) 102 f fd ["script"] sp := by
  obtain ⟨fd, e⟩ := e7 X G c
  have ea := e.binds.1
  rw [hfa] at ea
  cases ea
  refine ⟨fd, fun vs H Q E => ∃ n, spOf (M K) (evCall g n 100) 7 f7 vs H Q E, fun s v => e.binds.2.2.2.2 s [v] rfl, fun H a ns hl hS => ?_, fun base _ _ => law_fn (topOk X G c) rfl rfl e⟩
  obtain ⟨n, ρ, hev⟩ := says ns hl
  exact ⟨n, law_sp rfl rfl hev hS⟩
end K00
open PySem PySem.W PySem.Calls PyProof.Rows
theorem K00.holds (says : K00.Says) : PySem.Challenge.rw_lateplans_k00_errors.Holds := by
  w_on; o_law
  refine HandSHeadRun.head_any (r := OpenLaw.row PySem.Challenge.rw_lateplans_k00_errors) (q := view (OpenLaw.row PySem.Challenge.rw_lateplans_k00_errors).prog [22]) (H := K00.hk) (ob := K00.ob) (M := 4000) (loose := K00.loose) (d := HandSHeadRun.topDef (OpenLaw.row PySem.Challenge.rw_lateplans_k00_errors).prog 22) (kwd := []) K00.ob_eq
    (by kernel_rfl) (fun s => by kernel_rfl) K00.run (by kernel_rfl) (by kernel_rfl) (by kernel_rfl) (by rfl) (by first | assumption | decide +kernel) (by decide +kernel) ⟨rfl, rfl, rfl, rfl, rfl, by decide +kernel⟩ ?hw ?hc
  case hw => w_witness2
  case hc =>
    refine L2.walk_ofE (l := PySem.Challenge.rw_lateplans_k00_errors) (n := 63) (k := 102) (x := "script") (CX := Ev.anyCX (PySem.Challenge.rw_lateplans_k00_errors).prog) rfl (by decide) (by kernel_rfl) ⟨rfl, by decide, by decide⟩ ?F (Ev.anyCX_no _)
    intro w mg fa h Y G hmg0
    obtain ⟨K, KX, c⟩ := Y
    have hmg : mg ("law" : PySem.Str) = some (.ref fa) := by
      have e : (HandSHeadRun.topDef (OpenLaw.row PySem.Challenge.rw_lateplans_k00_errors).prog 22).name = ("law" : PySem.Str) := by kernel_rfl
      rw [← e]
      exact hmg0
    obtain ⟨fd, sp, hb, hsp, hF⟩ := K00.facts says (P := (PySem.Challenge.rw_lateplans_k00_errors).prog) (w := w) KX G hmg c
    exact ⟨K, fd, sp, KX, hb, fun H a ns hl _ hS => hsp H a ns hl hS, hF⟩
end

section
set_option maxHeartbeats 0
namespace Pl
open PySem Ev
theorem lc_eq {g : G} {cl : Nat → List Cell → Option (R Cell)} {e : Ex} {own : List Nat} {t : Tg} {it : Iter} {cs : Es} {ρ : Rho} : evE g cl (.lc e own t it cs) ρ = Ev.bnd (evI g cl it ρ) fun r ρ => (match lcL own (lcF g cl e t cs) r.1 [] (lookR ρ r.2) with
      | some (.ok l ρ') => if (tgs t).all own.contains then some (.ok (.lst l) (backR ρ (backR ρ ρ' r.2) own)) else none
      | _ => none) := by rw [evE]; rfl
theorem rng_succ (lo : Int) (n : Nat) : rngI lo (n + 1) = .int lo :: rngI (lo + 1) n := by
  simp only [rngI, List.range_succ_eq_map, List.map_cons, List.map_map]
  congr 1
  · simp
  · refine List.map_congr_left fun i _ => ?_
    simp; omega
theorem rng_cases {lo : Int} {n : Nat} {d : D} {ds : List D} (h : d :: ds = rngI lo n) : ∃ n', n = n' + 1 ∧ d = .int lo ∧ ds = rngI (lo + 1) n' := by
  cases n with
  | zero => simp [rngI] at h
  | succ n => 
    rw [rng_succ] at h
    injection h with h1 h2
    exact ⟨n, rfl, h1, h2⟩
theorem eqD_int (i j : Int) : eqD (.int i) (.int j) = some (i == j) := rfl
theorem ixD_map {α : Type} {f : α → D} {L : List α} {j : Nat} (h : j < L.length) : ixD (.lst (L.map f)) (.int (j : Nat)) = some (f L[j]) := by
  simp [ixD, place, L2.ixN, h]
theorem okR_small {i : Int} (h0 : 0 ≤ i) (h1 : i < 1000000) : okR i = true := by simp [okR]; omega
theorem evSs_nx {g : G} {cl : Nat → List Cell → Option (R Cell)} {n : Nat} {pr : List Nat} {s : St} {r : Ss} {ρ ρ' : Rho} (h : evS g cl n pr s ρ = some (.nx ρ')) : evSs g cl n pr (.cons s r) ρ = evSs g cl n pr r ρ' := by rw [evSs, h]
theorem evSs_rt {g : G} {cl : Nat → List Cell → Option (R Cell)} {n : Nat} {pr : List Nat} {s : St} {r : Ss} {ρ ρ' : Rho} {c : Cell} (h : evS g cl n pr s ρ = some (.rt c ρ')) : evSs g cl n pr (.cons s r) ρ = some (.rt c ρ') := by rw [evSs, h]
theorem range_of {g : G} {g' : Nat → List Cell → Option (R Cell)} {es : Es} {ρ ρ1 : Rho} {J : Int} (he : evD g g' es ρ = some (.ok [.int J] ρ1)) (h0 : 0 ≤ J) (h1 : J < 1000000) : evI g g' (.range es) ρ = some (.ok (rngI 0 J.toNat, []) ρ1) := by
  have hok := okR_small h0 h1
  have hr : rangeD [.int J] = some (rngI 0 J.toNat) := by simp only [rangeD, hok, if_true]
  rw [evI, he]
  simp only [Ev.bnd, hr, Option.map_some]
end Pl
namespace K00
open PySem Ev Pl
theorem box_eval {n k : Nat} {ds : List D} {kk x : Int} (hk : 0 ≤ kk) (hl : kk < ds.length) (hx : ds[kk.toNat]? = some (.int x)) (hs : kk < small) :
    ∃ ρ a b, evCall g n (k + 1) 0 [.fz (.lst ds), .fz (.int kk)] = some (.ok (bx a b 0) ρ) ∧ 0 ≤ a ∧ b = x % 2305843009213693951 + 39373 * kk + 90700 := by
  rw [call_eq (show g.fn 0 = some f0 from rfl) rfl (show 2 ≤ 3 by decide)]
  have s1 : evS g (evCall g n k) n [] (.set (.name 2) (.ife (.cmp .lt (.var 1) (.blt .len (.cons false (.var 0) .nil))) (.ix (.var 0) (.var 1)) (.k (.int 0)))) [some (.fz (.lst ds)), some (.fz (.int kk)), none] = some (.nx [some (.fz (.lst ds)), some (.fz (.int kk)), some (.fz (.int x))]) := by
    simp [evSs, evS.eq_1, evS.eq_2, evS.eq_3, evS.eq_5, evS.eq_6, evS.eq_7, evS.eq_8, evS.eq_9, evS.eq_12, evS.eq_13, evS.eq_15, evS.eq_16, evS.eq_17, evS_for, evI, rangeD, frzI, frzO, tgs, tgss, evE.eq_1, evE.eq_2, evE.eq_3, evE.eq_4, evE.eq_5, evE.eq_6, evE.eq_7, evE.eq_8, evE.eq_9, evE.eq_10, evE.eq_11, evE.eq_12, evE.eq_13, evE.eq_14, evE.eq_15, evE.eq_17, evE.eq_18, evE.eq_19, evE.eq_21, evE.eq_23, evE.eq_24, evE.eq_26, evE.eq_27, evO, evA, evD, evI, evAnd, evOr, evCs, callBy, agCells, lends, looks, Ag.cell, giveBack, bnO, Ev.bnd, tst, Od.d, Cell.d, ap1, ap2, apL, odsD, rdV, ixD, cmpD, truth, bltD, bmD, isiD, isTy, Ev.plain, asgC, asg, asgs, setC, setCs, updC, appC, isLst, isOwn, finO, itemsOf, seqOf, odLook, lookR, backR, wipeR, evPart, slD, recv, binD, opd_glo, opd_k, opd_tup, opd_lst, opd_bin, opd_neg, opd_not, opd_and, opd_or, opd_ife, opd_cmp, opd_cmp2, opd_ix, opd_sl, opd_call, opd_blt, opd_bm, opd_isi, opd_pop, opd_lc, opd_fnv, opd_callv, opd_xat, opd_isx, opd_mkx, mov_glo, mov_k, mov_tup, mov_lst, mov_bin, mov_neg, mov_not, mov_and, mov_or, mov_ife, mov_cmp, mov_cmp2, mov_ix, mov_sl, mov_call, mov_blt, mov_bm, mov_isi, mov_pop, mov_lc, mov_fnv, mov_callv, mov_xat, mov_isx, mov_mkx, arg_glo, arg_k, arg_tup, arg_lst, arg_bin, arg_neg, arg_not, arg_and, arg_or, arg_ife, arg_cmp, arg_cmp2, arg_ix, arg_sl, arg_call, arg_blt, arg_bm, arg_isi, arg_pop, arg_lc, arg_fnv, arg_callv, arg_xat, arg_isx, arg_mkx, opd_var, mov_var, arg_var, ltD, hl, ixD, place_nat hk hl, hx]
  have h3 : -small < (39373 : Int) ∧ (39373 : Int) < small := by decide
  have h4 : -small < (1 : Int) ∧ (1 : Int) < small := by decide
  have h5 : -small < (0 : Int) ∧ (0 : Int) < small := by decide
  have hz : (3 : Nat) ≤ sizeLine := by decide
  have s2 : ∃ a, evS g (evCall g n k) n [] (.ret (.lst (.cons false (.bin .mul (.blt .abs (.cons false (.var 2) .nil)) (.blt .int (.cons false (.cmp .ge (.blt .abs (.cons false (.var 2) .nil)) (.bin .pow (.k (.int 10)) (.k (.int 18)))) .nil))) (.cons false (.bin .add (.bin .add (.bin .mod (.blt .int (.cons false (.var 2) .nil)) (.k (.int 2305843009213693951))) (.bin .mul (.k (.int 39373)) (.var 1))) (.k (.int 90700))) (.cons false (.k (.int 0)) .nil))))) [some (.fz (.lst ds)), some (.fz (.int kk)), some (.fz (.int x))] = some (.rt (bx a (x % 2305843009213693951 + 39373 * kk + 90700) 0) [some (.fz (.lst ds)), some (.fz (.int kk)), some (.fz (.int x))]) ∧ 0 ≤ a := by
    by_cases h0 : x < 0
    · by_cases hb : 1000000000000000000 ≤ -x
      · exact ⟨-x, by simp [evSs, evS.eq_1, evS.eq_2, evS.eq_3, evS.eq_5, evS.eq_6, evS.eq_7, evS.eq_8, evS.eq_9, evS.eq_12, evS.eq_13, evS.eq_15, evS.eq_16, evS.eq_17, evS_for, evI, rangeD, frzI, frzO, tgs, tgss, evE.eq_1, evE.eq_2, evE.eq_3, evE.eq_4, evE.eq_5, evE.eq_6, evE.eq_7, evE.eq_8, evE.eq_9, evE.eq_10, evE.eq_11, evE.eq_12, evE.eq_13, evE.eq_14, evE.eq_15, evE.eq_17, evE.eq_18, evE.eq_19, evE.eq_21, evE.eq_23, evE.eq_24, evE.eq_26, evE.eq_27, evO, evA, evD, evI, evAnd, evOr, evCs, callBy, agCells, lends, looks, Ag.cell, giveBack, bnO, Ev.bnd, tst, Od.d, Cell.d, ap1, ap2, apL, odsD, rdV, ixD, cmpD, truth, bltD, bmD, isiD, isTy, Ev.plain, asgC, asg, asgs, setC, setCs, updC, appC, isLst, isOwn, finO, itemsOf, seqOf, odLook, lookR, backR, wipeR, evPart, slD, recv, binD, opd_glo, opd_k, opd_tup, opd_lst, opd_bin, opd_neg, opd_not, opd_and, opd_or, opd_ife, opd_cmp, opd_cmp2, opd_ix, opd_sl, opd_call, opd_blt, opd_bm, opd_isi, opd_pop, opd_lc, opd_fnv, opd_callv, opd_xat, opd_isx, opd_mkx, mov_glo, mov_k, mov_tup, mov_lst, mov_bin, mov_neg, mov_not, mov_and, mov_or, mov_ife, mov_cmp, mov_cmp2, mov_ix, mov_sl, mov_call, mov_blt, mov_bm, mov_isi, mov_pop, mov_lc, mov_fnv, mov_callv, mov_xat, mov_isx, mov_mkx, arg_glo, arg_k, arg_tup, arg_lst, arg_bin, arg_neg, arg_not, arg_and, arg_or, arg_ife, arg_cmp, arg_cmp2, arg_ix, arg_sl, arg_call, arg_blt, arg_bm, arg_isi, arg_pop, arg_lc, arg_fnv, arg_callv, arg_xat, arg_isx, arg_mkx, opd_var, mov_var, arg_var, h0, hb, h3, h4, hz], by omega⟩
      · exact ⟨0, by simp [evSs, evS.eq_1, evS.eq_2, evS.eq_3, evS.eq_5, evS.eq_6, evS.eq_7, evS.eq_8, evS.eq_9, evS.eq_12, evS.eq_13, evS.eq_15, evS.eq_16, evS.eq_17, evS_for, evI, rangeD, frzI, frzO, tgs, tgss, evE.eq_1, evE.eq_2, evE.eq_3, evE.eq_4, evE.eq_5, evE.eq_6, evE.eq_7, evE.eq_8, evE.eq_9, evE.eq_10, evE.eq_11, evE.eq_12, evE.eq_13, evE.eq_14, evE.eq_15, evE.eq_17, evE.eq_18, evE.eq_19, evE.eq_21, evE.eq_23, evE.eq_24, evE.eq_26, evE.eq_27, evO, evA, evD, evI, evAnd, evOr, evCs, callBy, agCells, lends, looks, Ag.cell, giveBack, bnO, Ev.bnd, tst, Od.d, Cell.d, ap1, ap2, apL, odsD, rdV, ixD, cmpD, truth, bltD, bmD, isiD, isTy, Ev.plain, asgC, asg, asgs, setC, setCs, updC, appC, isLst, isOwn, finO, itemsOf, seqOf, odLook, lookR, backR, wipeR, evPart, slD, recv, binD, opd_glo, opd_k, opd_tup, opd_lst, opd_bin, opd_neg, opd_not, opd_and, opd_or, opd_ife, opd_cmp, opd_cmp2, opd_ix, opd_sl, opd_call, opd_blt, opd_bm, opd_isi, opd_pop, opd_lc, opd_fnv, opd_callv, opd_xat, opd_isx, opd_mkx, mov_glo, mov_k, mov_tup, mov_lst, mov_bin, mov_neg, mov_not, mov_and, mov_or, mov_ife, mov_cmp, mov_cmp2, mov_ix, mov_sl, mov_call, mov_blt, mov_bm, mov_isi, mov_pop, mov_lc, mov_fnv, mov_callv, mov_xat, mov_isx, mov_mkx, arg_glo, arg_k, arg_tup, arg_lst, arg_bin, arg_neg, arg_not, arg_and, arg_or, arg_ife, arg_cmp, arg_cmp2, arg_ix, arg_sl, arg_call, arg_blt, arg_bm, arg_isi, arg_pop, arg_lc, arg_fnv, arg_callv, arg_xat, arg_isx, arg_mkx, opd_var, mov_var, arg_var, h0, hb, h3, h5, hz], by omega⟩
    · by_cases hb : 1000000000000000000 ≤ x
      · exact ⟨x, by simp [evSs, evS.eq_1, evS.eq_2, evS.eq_3, evS.eq_5, evS.eq_6, evS.eq_7, evS.eq_8, evS.eq_9, evS.eq_12, evS.eq_13, evS.eq_15, evS.eq_16, evS.eq_17, evS_for, evI, rangeD, frzI, frzO, tgs, tgss, evE.eq_1, evE.eq_2, evE.eq_3, evE.eq_4, evE.eq_5, evE.eq_6, evE.eq_7, evE.eq_8, evE.eq_9, evE.eq_10, evE.eq_11, evE.eq_12, evE.eq_13, evE.eq_14, evE.eq_15, evE.eq_17, evE.eq_18, evE.eq_19, evE.eq_21, evE.eq_23, evE.eq_24, evE.eq_26, evE.eq_27, evO, evA, evD, evI, evAnd, evOr, evCs, callBy, agCells, lends, looks, Ag.cell, giveBack, bnO, Ev.bnd, tst, Od.d, Cell.d, ap1, ap2, apL, odsD, rdV, ixD, cmpD, truth, bltD, bmD, isiD, isTy, Ev.plain, asgC, asg, asgs, setC, setCs, updC, appC, isLst, isOwn, finO, itemsOf, seqOf, odLook, lookR, backR, wipeR, evPart, slD, recv, binD, opd_glo, opd_k, opd_tup, opd_lst, opd_bin, opd_neg, opd_not, opd_and, opd_or, opd_ife, opd_cmp, opd_cmp2, opd_ix, opd_sl, opd_call, opd_blt, opd_bm, opd_isi, opd_pop, opd_lc, opd_fnv, opd_callv, opd_xat, opd_isx, opd_mkx, mov_glo, mov_k, mov_tup, mov_lst, mov_bin, mov_neg, mov_not, mov_and, mov_or, mov_ife, mov_cmp, mov_cmp2, mov_ix, mov_sl, mov_call, mov_blt, mov_bm, mov_isi, mov_pop, mov_lc, mov_fnv, mov_callv, mov_xat, mov_isx, mov_mkx, arg_glo, arg_k, arg_tup, arg_lst, arg_bin, arg_neg, arg_not, arg_and, arg_or, arg_ife, arg_cmp, arg_cmp2, arg_ix, arg_sl, arg_call, arg_blt, arg_bm, arg_isi, arg_pop, arg_lc, arg_fnv, arg_callv, arg_xat, arg_isx, arg_mkx, opd_var, mov_var, arg_var, h0, hb, h3, h4, hz], by omega⟩
      · exact ⟨0, by simp [evSs, evS.eq_1, evS.eq_2, evS.eq_3, evS.eq_5, evS.eq_6, evS.eq_7, evS.eq_8, evS.eq_9, evS.eq_12, evS.eq_13, evS.eq_15, evS.eq_16, evS.eq_17, evS_for, evI, rangeD, frzI, frzO, tgs, tgss, evE.eq_1, evE.eq_2, evE.eq_3, evE.eq_4, evE.eq_5, evE.eq_6, evE.eq_7, evE.eq_8, evE.eq_9, evE.eq_10, evE.eq_11, evE.eq_12, evE.eq_13, evE.eq_14, evE.eq_15, evE.eq_17, evE.eq_18, evE.eq_19, evE.eq_21, evE.eq_23, evE.eq_24, evE.eq_26, evE.eq_27, evO, evA, evD, evI, evAnd, evOr, evCs, callBy, agCells, lends, looks, Ag.cell, giveBack, bnO, Ev.bnd, tst, Od.d, Cell.d, ap1, ap2, apL, odsD, rdV, ixD, cmpD, truth, bltD, bmD, isiD, isTy, Ev.plain, asgC, asg, asgs, setC, setCs, updC, appC, isLst, isOwn, finO, itemsOf, seqOf, odLook, lookR, backR, wipeR, evPart, slD, recv, binD, opd_glo, opd_k, opd_tup, opd_lst, opd_bin, opd_neg, opd_not, opd_and, opd_or, opd_ife, opd_cmp, opd_cmp2, opd_ix, opd_sl, opd_call, opd_blt, opd_bm, opd_isi, opd_pop, opd_lc, opd_fnv, opd_callv, opd_xat, opd_isx, opd_mkx, mov_glo, mov_k, mov_tup, mov_lst, mov_bin, mov_neg, mov_not, mov_and, mov_or, mov_ife, mov_cmp, mov_cmp2, mov_ix, mov_sl, mov_call, mov_blt, mov_bm, mov_isi, mov_pop, mov_lc, mov_fnv, mov_callv, mov_xat, mov_isx, mov_mkx, arg_glo, arg_k, arg_tup, arg_lst, arg_bin, arg_neg, arg_not, arg_and, arg_or, arg_ife, arg_cmp, arg_cmp2, arg_ix, arg_sl, arg_call, arg_blt, arg_bm, arg_isi, arg_pop, arg_lc, arg_fnv, arg_callv, arg_xat, arg_isx, arg_mkx, opd_var, mov_var, arg_var, h0, hb, h3, h5, hz], by omega⟩
  obtain ⟨a, s2, ha⟩ := s2
  refine ⟨[some (.fz (.lst ds)), some (.fz (.int kk)), some (.fz (.int x))], a, _, ?_, ha, rfl⟩
  exact (congrArg finO ((evSs_nx s1).trans (evSs_rt s2))).trans rfl
/-- a box of a short row of numbers stands well -/
theorem box_ok {n k : Nat} {is : List Int} {kk : Nat} (hk : kk < is.length) (h6 : is.length ≤ 63) : ∃ ρ c, evCall g n (k + 1) 0 [.fz (.lst (is.map .int)), .fz (.int kk)] = some (.ok c ρ) ∧ Bx 0 c := by
  have h1 : ((kk : Nat) : Int) < small := by
    have : (63 : Int) < small := by decide
    omega
  obtain ⟨ρ, a, b, e, ha, hb⟩ := box_eval (n := n) (k := k) (ds := is.map .int) (kk := (kk : Int)) (x := is[kk]) (by omega) (by simpa using hk) (by simp [hk]) h1
  exact ⟨ρ, _, e, a, b, 0, rfl, ha, by rw [hb]; omega, by rw [hb]; omega, by omega, by omega⟩
end K00
end

section
set_option maxHeartbeats 0
namespace K00
open PySem Ev Pl
def cellS : Ss := (.cons (.set (.name 5) (.bin .mod (.blt .int (.cons false (.var 3) .nil)) (.var 1))) (.cons (.setix 2 (.var 5) (.bin .add (.ix (.var 2) (.var 5)) (.bin .mul (.var 4) (.bin .add (.var 3) (.k (.int 2)))))) .nil))
theorem cell_one {g' : Nat → List Cell → Option (R Cell)} {n : Nat} {a x3 x4 x5 : Option Cell} {is : List Int} {i b : Int} (h3 : is.length = 3) (hi : 0 ≤ i) (hi2 : -small < i + 2 ∧ i + 2 < small) :
    ∃ is' : List Int, is'.length = 3 ∧ forF g g' n [] (.tup [(.name 3), (.name 4)]) cellS (.tup [.int i, .int b]) [a, some (.fz (.int 3)), some (.lst (is.map .int)), x3, x4, x5] = some (.nx [a, some (.fz (.int 3)), some (.lst (is'.map .int)), some (.fz (.int i)), some (.fz (.int b)), some (.fz (.int (i % 3)))]) := by
  have hm : (i % 3).toNat < is.length := by omega
  have h0 : 0 ≤ i % 3 := by omega
  have hl : i % 3 < ((is.map D.int).length : Int) := by simp; omega
  have pl := place_nat h0 hl
  simp only [List.length_map] at pl
  refine ⟨is.set (i % 3).toNat (is[(i % 3).toNat] + b * (i + 2)), by simp [h3], ?_⟩
  simp [forF, cellS, evSs, evS.eq_1, evS.eq_2, evS.eq_3, evS.eq_5, evS.eq_6, evS.eq_7, evS.eq_8, evS.eq_9, evS.eq_12, evS.eq_13, evS.eq_15, evS.eq_16, evS.eq_17, evS_for, evI, rangeD, frzI, frzO, tgs, tgss, evE.eq_1, evE.eq_2, evE.eq_3, evE.eq_4, evE.eq_5, evE.eq_6, evE.eq_7, evE.eq_8, evE.eq_9, evE.eq_10, evE.eq_11, evE.eq_12, evE.eq_13, evE.eq_14, evE.eq_15, evE.eq_17, evE.eq_18, evE.eq_19, evE.eq_21, evE.eq_23, evE.eq_24, evE.eq_26, evE.eq_27, evO, evA, evD, evI, evAnd, evOr, evCs, callBy, agCells, lends, looks, Ag.cell, giveBack, bnO, Ev.bnd, tst, Od.d, Cell.d, ap1, ap2, apL, odsD, rdV, ixD, cmpD, truth, bltD, bmD, isiD, isTy, Ev.plain, asgC, asg, asgs, setC, setCs, updC, appC, isLst, isOwn, finO, itemsOf, seqOf, odLook, lookR, backR, wipeR, evPart, slD, recv, binD, opd_glo, opd_k, opd_tup, opd_lst, opd_bin, opd_neg, opd_not, opd_and, opd_or, opd_ife, opd_cmp, opd_cmp2, opd_ix, opd_sl, opd_call, opd_blt, opd_bm, opd_isi, opd_pop, opd_lc, opd_fnv, opd_callv, opd_xat, opd_isx, opd_mkx, mov_glo, mov_k, mov_tup, mov_lst, mov_bin, mov_neg, mov_not, mov_and, mov_or, mov_ife, mov_cmp, mov_cmp2, mov_ix, mov_sl, mov_call, mov_blt, mov_bm, mov_isi, mov_pop, mov_lc, mov_fnv, mov_callv, mov_xat, mov_isx, mov_mkx, arg_glo, arg_k, arg_tup, arg_lst, arg_bin, arg_neg, arg_not, arg_and, arg_or, arg_ife, arg_cmp, arg_cmp2, arg_ix, arg_sl, arg_call, arg_blt, arg_bm, arg_isi, arg_pop, arg_lc, arg_fnv, arg_callv, arg_xat, arg_isx, arg_mkx, opd_var, mov_var, arg_var, ixD, pl, hm, hi2, setIx, List.map_set]
theorem cell_loop {g' : Nat → List Cell → Option (R Cell)} {n : Nat} {a : Option Cell} {is bs : List Int} (hb : bs.length ≤ 63) (h3 : bs ≠ [] → is.length = 3) :
    ∃ (is' : List Int) (x3 x4 x5 : Option Cell), is'.length = is.length ∧ forL (forF g g' n [] (.tup [(.name 3), (.name 4)]) cellS) (enumL 0 (bs.map .int)) [a, some (.fz (.int 3)), some (.lst (is.map .int)), none, none, none] = some (.nx [a, some (.fz (.int 3)), some (.lst (is'.map .int)), x3, x4, x5]) := by
  have sm : (1000 : Int) < small := by decide
  obtain ⟨ρ', e, i, is', x3, x4, x5, bs', h1, h2, h4, h5, h6, rfl⟩ := forL_inv (f := forF g g' n [] (.tup [(.name 3), (.name 4)]) cellS)
    (P := fun rest ρ => ∃ (i : Int) (is' : List Int) (x3 x4 x5 : Option Cell) (bs' : List Int), rest = enumL i (bs'.map .int) ∧ 0 ≤ i ∧ i + bs'.length ≤ 63 ∧ is'.length = is.length ∧ (bs' ≠ [] → is.length = 3) ∧ ρ = [a, some (.fz (.int 3)), some (.lst (is'.map .int)), x3, x4, x5])
    (ds := enumL 0 (bs.map .int)) (ρ := [a, some (.fz (.int 3)), some (.lst (is.map .int)), none, none, none]) ⟨0, is, none, none, none, bs, rfl, by omega, by omega, rfl, h3, rfl⟩ fun d ds ρ ⟨i, is', x3, x4, x5, bs', h1, h2, h4, h5, h6, hr⟩ => by
      subst hr
      cases bs' with
      | nil => simp [enumL] at h1
      | cons b bs' =>
        simp only [List.map_cons, enumL, List.cons.injEq] at h1
        obtain ⟨rfl, rfl⟩ := h1
        simp only [List.length_cons] at h4
        have l3 := h6 (by simp)
        obtain ⟨is2, l2, e⟩ := cell_one (g' := g') (n := n) (a := a) (x3 := x3) (x4 := x4) (x5 := x5) (is := is') (i := i) (b := b) (by omega) h2 (by omega)
        exact ⟨_, e, i + 1, is2, _, _, _, bs', rfl, by omega, by omega, by omega, fun _ => l3, rfl⟩
  exact ⟨is', x3, x4, x5, h5, e⟩
end K00
end

section
set_option maxHeartbeats 0
namespace K00
open PySem Ev Pl
theorem cut_a (ns : List Int) : ∃ is : List Int, cut (ns.map D.int) none (some 3) = is.map D.int ∧ is.length = min 3 ns.length := by
  refine ⟨ns.take (min 3 ns.length), ?_, by simp⟩
  have h : HT.sIx (ns.map D.int).length (ns.map D.int).length (some (3 : Int)) = min 3 ns.length := by
    rw [List.length_map]; exact HT.sIx_nat _ _ 3
  simp only [cut, h, HT.sIx_none, List.drop_zero, Nat.sub_zero, List.map_take]
theorem cut_b (ns : List Int) : ∃ bs : List Int, cut (ns.map D.int) (some 3) (some 63) = bs.map D.int ∧ bs.length ≤ 63 ∧ (bs ≠ [] → 3 ≤ ns.length) := by
  have h : HT.sIx (ns.map D.int).length (ns.map D.int).length (some (63 : Int)) = min 63 ns.length := by
    rw [List.length_map]; exact HT.sIx_nat _ _ 63
  have h0 : HT.sIx (ns.map D.int).length 0 (some (3 : Int)) = min 3 ns.length := by
    rw [List.length_map]; exact HT.sIx_nat _ _ 3
  refine ⟨(ns.drop (min 3 ns.length)).take (min 63 ns.length - min 3 ns.length), ?_, by simp; omega, fun hne => ?_⟩
  · simp only [cut, h, h0, List.map_take, List.map_drop]
  · have := List.length_pos_iff.mpr hne
    simp at this
    omega
theorem cells_ok {n k : Nat} {ns : List Int} : ∃ (is : List Int) (ρ : Rho), evCall g n (k + 1) 2 [.fz (.lst (ns.map .int)), .fz (.int 3)] = some (.ok (.lst (is.map .int)) ρ) ∧ 0 < is.length ∧ is.length ≤ 3 := by
  obtain ⟨is, ea, la⟩ := cut_a ns
  obtain ⟨bs, eb, lb, hb⟩ := cut_b ns
  rw [call_eq (show g.fn 2 = some f2 from rfl) rfl (show 2 ≤ 6 by decide)]
  have hz : (1 : Nat) ≤ sizeLine := by decide
  have s1 : ∃ js : List Int, evS g (evCall g n k) n [] (.set (.name 2) (.or (.cons false (.blt .list (.cons false (.sl (.var 0) false .stk true (.var 1) false) .nil)) (.cons false (.lst (.cons false (.k (.int 0)) .nil)) .nil)))) [some (.fz (.lst (ns.map .int))), some (.fz (.int 3)), none, none, none, none] = some (.nx [some (.fz (.lst (ns.map .int))), some (.fz (.int 3)), some (.lst (js.map .int)), none, none, none]) ∧ 0 < js.length ∧ js.length ≤ 3 ∧ (3 ≤ ns.length → js.length = 3) := by
    cases is with
    | nil => exact ⟨[0], by simp [evSs, evS.eq_1, evS.eq_2, evS.eq_3, evS.eq_5, evS.eq_6, evS.eq_7, evS.eq_8, evS.eq_9, evS.eq_12, evS.eq_13, evS.eq_15, evS.eq_16, evS.eq_17, evS_for, evI, rangeD, frzI, frzO, tgs, tgss, evE.eq_1, evE.eq_2, evE.eq_3, evE.eq_4, evE.eq_5, evE.eq_6, evE.eq_7, evE.eq_8, evE.eq_9, evE.eq_10, evE.eq_11, evE.eq_12, evE.eq_13, evE.eq_14, evE.eq_15, evE.eq_17, evE.eq_18, evE.eq_19, evE.eq_21, evE.eq_23, evE.eq_24, evE.eq_26, evE.eq_27, evO, evA, evD, evI, evAnd, evOr, evCs, callBy, agCells, lends, looks, Ag.cell, giveBack, bnO, Ev.bnd, tst, Od.d, Cell.d, ap1, ap2, apL, odsD, rdV, ixD, cmpD, truth, bltD, bmD, isiD, isTy, Ev.plain, asgC, asg, asgs, setC, setCs, updC, appC, isLst, isOwn, finO, itemsOf, seqOf, odLook, lookR, backR, wipeR, evPart, slD, recv, binD, opd_glo, opd_k, opd_tup, opd_lst, opd_bin, opd_neg, opd_not, opd_and, opd_or, opd_ife, opd_cmp, opd_cmp2, opd_ix, opd_sl, opd_call, opd_blt, opd_bm, opd_isi, opd_pop, opd_lc, opd_fnv, opd_callv, opd_xat, opd_isx, opd_mkx, mov_glo, mov_k, mov_tup, mov_lst, mov_bin, mov_neg, mov_not, mov_and, mov_or, mov_ife, mov_cmp, mov_cmp2, mov_ix, mov_sl, mov_call, mov_blt, mov_bm, mov_isi, mov_pop, mov_lc, mov_fnv, mov_callv, mov_xat, mov_isx, mov_mkx, arg_glo, arg_k, arg_tup, arg_lst, arg_bin, arg_neg, arg_not, arg_and, arg_or, arg_ife, arg_cmp, arg_cmp2, arg_ix, arg_sl, arg_call, arg_blt, arg_bm, arg_isi, arg_pop, arg_lc, arg_fnv, arg_callv, arg_xat, arg_isx, arg_mkx, opd_var, mov_var, arg_var, ea, hz], by simp, by simp, fun h => by simp at la; omega⟩
    | cons z is => exact ⟨z :: is, by simp [evSs, evS.eq_1, evS.eq_2, evS.eq_3, evS.eq_5, evS.eq_6, evS.eq_7, evS.eq_8, evS.eq_9, evS.eq_12, evS.eq_13, evS.eq_15, evS.eq_16, evS.eq_17, evS_for, evI, rangeD, frzI, frzO, tgs, tgss, evE.eq_1, evE.eq_2, evE.eq_3, evE.eq_4, evE.eq_5, evE.eq_6, evE.eq_7, evE.eq_8, evE.eq_9, evE.eq_10, evE.eq_11, evE.eq_12, evE.eq_13, evE.eq_14, evE.eq_15, evE.eq_17, evE.eq_18, evE.eq_19, evE.eq_21, evE.eq_23, evE.eq_24, evE.eq_26, evE.eq_27, evO, evA, evD, evI, evAnd, evOr, evCs, callBy, agCells, lends, looks, Ag.cell, giveBack, bnO, Ev.bnd, tst, Od.d, Cell.d, ap1, ap2, apL, odsD, rdV, ixD, cmpD, truth, bltD, bmD, isiD, isTy, Ev.plain, asgC, asg, asgs, setC, setCs, updC, appC, isLst, isOwn, finO, itemsOf, seqOf, odLook, lookR, backR, wipeR, evPart, slD, recv, binD, opd_glo, opd_k, opd_tup, opd_lst, opd_bin, opd_neg, opd_not, opd_and, opd_or, opd_ife, opd_cmp, opd_cmp2, opd_ix, opd_sl, opd_call, opd_blt, opd_bm, opd_isi, opd_pop, opd_lc, opd_fnv, opd_callv, opd_xat, opd_isx, opd_mkx, mov_glo, mov_k, mov_tup, mov_lst, mov_bin, mov_neg, mov_not, mov_and, mov_or, mov_ife, mov_cmp, mov_cmp2, mov_ix, mov_sl, mov_call, mov_blt, mov_bm, mov_isi, mov_pop, mov_lc, mov_fnv, mov_callv, mov_xat, mov_isx, mov_mkx, arg_glo, arg_k, arg_tup, arg_lst, arg_bin, arg_neg, arg_not, arg_and, arg_or, arg_ife, arg_cmp, arg_cmp2, arg_ix, arg_sl, arg_call, arg_blt, arg_bm, arg_isi, arg_pop, arg_lc, arg_fnv, arg_callv, arg_xat, arg_isx, arg_mkx, opd_var, mov_var, arg_var, ea], by simp, by omega, fun h => by omega⟩
  obtain ⟨js, s1, j0, j3, jj⟩ := s1
  obtain ⟨is', x3, x4, x5, l', e⟩ := cell_loop (g' := evCall g n k) (n := n) (a := some (.fz (.lst (ns.map .int)))) (is := js) (bs := bs) lb (fun h => jj (hb h))
  have hi : evI g (evCall g n k) (.enum (.sl (.var 0) true (.var 1) true (.k (.int 63)) false) 0) [some (.fz (.lst (ns.map .int))), some (.fz (.int 3)), some (.lst (js.map .int)), none, none, none] = some (.ok (enumL 0 (bs.map .int), []) [some (.fz (.lst (ns.map .int))), some (.fz (.int 3)), some (.lst (js.map .int)), none, none, none]) := by
    simp [evSs, evS.eq_1, evS.eq_2, evS.eq_3, evS.eq_5, evS.eq_6, evS.eq_7, evS.eq_8, evS.eq_9, evS.eq_12, evS.eq_13, evS.eq_15, evS.eq_16, evS.eq_17, evS_for, evI, rangeD, frzI, frzO, tgs, tgss, evE.eq_1, evE.eq_2, evE.eq_3, evE.eq_4, evE.eq_5, evE.eq_6, evE.eq_7, evE.eq_8, evE.eq_9, evE.eq_10, evE.eq_11, evE.eq_12, evE.eq_13, evE.eq_14, evE.eq_15, evE.eq_17, evE.eq_18, evE.eq_19, evE.eq_21, evE.eq_23, evE.eq_24, evE.eq_26, evE.eq_27, evO, evA, evD, evI, evAnd, evOr, evCs, callBy, agCells, lends, looks, Ag.cell, giveBack, bnO, Ev.bnd, tst, Od.d, Cell.d, ap1, ap2, apL, odsD, rdV, ixD, cmpD, truth, bltD, bmD, isiD, isTy, Ev.plain, asgC, asg, asgs, setC, setCs, updC, appC, isLst, isOwn, finO, itemsOf, seqOf, odLook, lookR, backR, wipeR, evPart, slD, recv, binD, opd_glo, opd_k, opd_tup, opd_lst, opd_bin, opd_neg, opd_not, opd_and, opd_or, opd_ife, opd_cmp, opd_cmp2, opd_ix, opd_sl, opd_call, opd_blt, opd_bm, opd_isi, opd_pop, opd_lc, opd_fnv, opd_callv, opd_xat, opd_isx, opd_mkx, mov_glo, mov_k, mov_tup, mov_lst, mov_bin, mov_neg, mov_not, mov_and, mov_or, mov_ife, mov_cmp, mov_cmp2, mov_ix, mov_sl, mov_call, mov_blt, mov_bm, mov_isi, mov_pop, mov_lc, mov_fnv, mov_callv, mov_xat, mov_isx, mov_mkx, arg_glo, arg_k, arg_tup, arg_lst, arg_bin, arg_neg, arg_not, arg_and, arg_or, arg_ife, arg_cmp, arg_cmp2, arg_ix, arg_sl, arg_call, arg_blt, arg_bm, arg_isi, arg_pop, arg_lc, arg_fnv, arg_callv, arg_xat, arg_isx, arg_mkx, opd_var, mov_var, arg_var, eb]
  have s2 : evS g (evCall g n k) n [] (.for_ (.tup [(.name 3), (.name 4)]) (.enum (.sl (.var 0) true (.var 1) true (.k (.int 63)) false) 0) cellS) [some (.fz (.lst (ns.map .int))), some (.fz (.int 3)), some (.lst (js.map .int)), none, none, none] = some (.nx [some (.fz (.lst (ns.map .int))), some (.fz (.int 3)), some (.lst (is'.map .int)), x3, x4, x5]) := by
    rw [evS_for, hi]
    simp [bnO, tgs, tgss, frzI, frzO, e]
  have s3 : evS g (evCall g n k) n [] (.ret (.var 2)) [some (.fz (.lst (ns.map .int))), some (.fz (.int 3)), some (.lst (is'.map .int)), x3, x4, x5] = some (.rt (.lst (is'.map .int)) [some (.fz (.lst (ns.map .int))), some (.fz (.int 3)), none, x3, x4, x5]) := by
    simp [evSs, evS.eq_1, evS.eq_2, evS.eq_3, evS.eq_5, evS.eq_6, evS.eq_7, evS.eq_8, evS.eq_9, evS.eq_12, evS.eq_13, evS.eq_15, evS.eq_16, evS.eq_17, evS_for, evI, rangeD, frzI, frzO, tgs, tgss, evE.eq_1, evE.eq_2, evE.eq_3, evE.eq_4, evE.eq_5, evE.eq_6, evE.eq_7, evE.eq_8, evE.eq_9, evE.eq_10, evE.eq_11, evE.eq_12, evE.eq_13, evE.eq_14, evE.eq_15, evE.eq_17, evE.eq_18, evE.eq_19, evE.eq_21, evE.eq_23, evE.eq_24, evE.eq_26, evE.eq_27, evO, evA, evD, evI, evAnd, evOr, evCs, callBy, agCells, lends, looks, Ag.cell, giveBack, bnO, Ev.bnd, tst, Od.d, Cell.d, ap1, ap2, apL, odsD, rdV, ixD, cmpD, truth, bltD, bmD, isiD, isTy, Ev.plain, asgC, asg, asgs, setC, setCs, updC, appC, isLst, isOwn, finO, itemsOf, seqOf, odLook, lookR, backR, wipeR, evPart, slD, recv, binD, opd_glo, opd_k, opd_tup, opd_lst, opd_bin, opd_neg, opd_not, opd_and, opd_or, opd_ife, opd_cmp, opd_cmp2, opd_ix, opd_sl, opd_call, opd_blt, opd_bm, opd_isi, opd_pop, opd_lc, opd_fnv, opd_callv, opd_xat, opd_isx, opd_mkx, mov_glo, mov_k, mov_tup, mov_lst, mov_bin, mov_neg, mov_not, mov_and, mov_or, mov_ife, mov_cmp, mov_cmp2, mov_ix, mov_sl, mov_call, mov_blt, mov_bm, mov_isi, mov_pop, mov_lc, mov_fnv, mov_callv, mov_xat, mov_isx, mov_mkx, arg_glo, arg_k, arg_tup, arg_lst, arg_bin, arg_neg, arg_not, arg_and, arg_or, arg_ife, arg_cmp, arg_cmp2, arg_ix, arg_sl, arg_call, arg_blt, arg_bm, arg_isi, arg_pop, arg_lc, arg_fnv, arg_callv, arg_xat, arg_isx, arg_mkx, opd_var, mov_var, arg_var]
  exact ⟨is', _, (congrArg finO ((evSs_nx s1).trans ((evSs_nx s2).trans (evSs_rt s3)))).trans rfl, by omega, by omega⟩
end K00
end

section
set_option maxHeartbeats 0
namespace K00
open PySem Ev Pl
def bls (k : Nat) : List D := (List.range 12).map fun j => D.bl (j == k)
def isB (b : Bool) : D → Bool | .bl c => b == c | _ => false
def areB : List Bool → List D → Bool
  | [], [] => true
  | b :: bs, d :: ds => isB b d && areB bs ds
  | _, _ => false
def okB (bs : List Bool) : Option (R Cell) → Bool
  | some (.ok (.lst ds) _) => areB bs ds
  | _ => false
theorem areB_eq : ∀ {bs : List Bool} {ds : List D}, areB bs ds = true → ds = bs.map .bl
  | [], [], _ => rfl
  | b :: bs, d :: ds, h => by
    simp only [areB, Bool.and_eq_true] at h
    rw [areB_eq h.2]
    cases d with
    | bl c => have := h.1; simp only [isB, beq_iff_eq] at this; rw [this]; rfl
    | _ => cases h.1
theorem okB_out {bs : List Bool} {x : Option (R Cell)} (h : okB bs x = true) : ∃ ρ, x = some (.ok (.lst (bs.map .bl)) ρ) := by
  unfold okB at h
  split at h
  · rw [areB_eq h]; exact ⟨_, rfl⟩
  · cases h
def bs (k : Nat) : List Bool := (List.range 12).map fun j => j == k
theorem bls_eq (k : Nat) : bls k = (bs k).map .bl := by rw [bls, bs, List.map_map]; rfl
theorem so0 (n K : Nat) (v : D) : okB (bs 0) (evCall g n (K + 1) 5 [.fz (.exc 0 [v])]) = true := by kernel_rfl
theorem so1 (n K : Nat) (v : D) : okB (bs 1) (evCall g n (K + 1) 5 [.fz (.exc 1 [v])]) = true := by kernel_rfl
theorem so2 (n K : Nat) (v : D) : okB (bs 2) (evCall g n (K + 1) 5 [.fz (.exc 2 [v])]) = true := by kernel_rfl
theorem so3 (n K : Nat) (v : D) : okB (bs 3) (evCall g n (K + 1) 5 [.fz (.exc 3 [v])]) = true := by kernel_rfl
theorem so4 (n K : Nat) (v : D) : okB (bs 4) (evCall g n (K + 1) 5 [.fz (.exc 4 [v])]) = true := by kernel_rfl
theorem so5 (n K : Nat) (v : D) : okB (bs 5) (evCall g n (K + 1) 5 [.fz (.exc 5 [v])]) = true := by kernel_rfl
theorem so6 (n K : Nat) (v : D) : okB (bs 6) (evCall g n (K + 1) 5 [.fz (.exc 6 [v])]) = true := by kernel_rfl
theorem so7 (n K : Nat) (v : D) : okB (bs 7) (evCall g n (K + 1) 5 [.fz (.exc 7 [v])]) = true := by kernel_rfl
theorem so8 (n K : Nat) (v : D) : okB (bs 8) (evCall g n (K + 1) 5 [.fz (.exc 8 [v])]) = true := by kernel_rfl
theorem so9 (n K : Nat) (v : D) : okB (bs 9) (evCall g n (K + 1) 5 [.fz (.exc 9 [v])]) = true := by kernel_rfl
theorem so10 (n K : Nat) (v : D) : okB (bs 10) (evCall g n (K + 1) 5 [.fz (.exc 10 [v])]) = true := by kernel_rfl
theorem so11 (n K : Nat) (v : D) : okB (bs 11) (evCall g n (K + 1) 5 [.fz (.exc 11 [v])]) = true := by kernel_rfl
theorem sorts_ok {n K k : Nat} (hk : k < 12) (v : D) : ∃ ρ, evCall g n (K + 1) 5 [.fz (.exc k [v])] = some (.ok (.lst (bls k)) ρ) := by
  rw [bls_eq]
  match k, hk with
  | 0, _ => exact okB_out (so0 n K v)
  | 1, _ => exact okB_out (so1 n K v)
  | 2, _ => exact okB_out (so2 n K v)
  | 3, _ => exact okB_out (so3 n K v)
  | 4, _ => exact okB_out (so4 n K v)
  | 5, _ => exact okB_out (so5 n K v)
  | 6, _ => exact okB_out (so6 n K v)
  | 7, _ => exact okB_out (so7 n K v)
  | 8, _ => exact okB_out (so8 n K v)
  | 9, _ => exact okB_out (so9 n K v)
  | 10, _ => exact okB_out (so10 n K v)
  | 11, _ => exact okB_out (so11 n K v)
  | j + 12, h => exact absurd h (by omega)
section
variable {cl : Nat → List Cell → Option (R Cell)} {n : Nat} {c0 c1 c2 c3 c4 c5 x6 x7 x8 : Option Cell} {v : D} {ρ1 ρ2 : Rho} {E : List D}
theorem lc0 : evE g cl l6_0 [c0, c1, c2, c3, c4, c5, some (.fz (.int (0 : Nat))), x7, x8] = some (.ok (.lst (bls 0)) [c0, c1, c2, c3, c4, c5, some (.fz (.int (0 : Nat))), x7, x8]) := by kernel_rfl
theorem lc1 : evE g cl l6_0 [c0, c1, c2, c3, c4, c5, some (.fz (.int (1 : Nat))), x7, x8] = some (.ok (.lst (bls 1)) [c0, c1, c2, c3, c4, c5, some (.fz (.int (1 : Nat))), x7, x8]) := by kernel_rfl
theorem lc2 : evE g cl l6_0 [c0, c1, c2, c3, c4, c5, some (.fz (.int (2 : Nat))), x7, x8] = some (.ok (.lst (bls 2)) [c0, c1, c2, c3, c4, c5, some (.fz (.int (2 : Nat))), x7, x8]) := by kernel_rfl
theorem lc3 : evE g cl l6_0 [c0, c1, c2, c3, c4, c5, some (.fz (.int (3 : Nat))), x7, x8] = some (.ok (.lst (bls 3)) [c0, c1, c2, c3, c4, c5, some (.fz (.int (3 : Nat))), x7, x8]) := by kernel_rfl
theorem lc4 : evE g cl l6_0 [c0, c1, c2, c3, c4, c5, some (.fz (.int (4 : Nat))), x7, x8] = some (.ok (.lst (bls 4)) [c0, c1, c2, c3, c4, c5, some (.fz (.int (4 : Nat))), x7, x8]) := by kernel_rfl
theorem lc5 : evE g cl l6_0 [c0, c1, c2, c3, c4, c5, some (.fz (.int (5 : Nat))), x7, x8] = some (.ok (.lst (bls 5)) [c0, c1, c2, c3, c4, c5, some (.fz (.int (5 : Nat))), x7, x8]) := by kernel_rfl
theorem lc6 : evE g cl l6_0 [c0, c1, c2, c3, c4, c5, some (.fz (.int (6 : Nat))), x7, x8] = some (.ok (.lst (bls 6)) [c0, c1, c2, c3, c4, c5, some (.fz (.int (6 : Nat))), x7, x8]) := by kernel_rfl
theorem lc7 : evE g cl l6_0 [c0, c1, c2, c3, c4, c5, some (.fz (.int (7 : Nat))), x7, x8] = some (.ok (.lst (bls 7)) [c0, c1, c2, c3, c4, c5, some (.fz (.int (7 : Nat))), x7, x8]) := by kernel_rfl
theorem lc8 : evE g cl l6_0 [c0, c1, c2, c3, c4, c5, some (.fz (.int (8 : Nat))), x7, x8] = some (.ok (.lst (bls 8)) [c0, c1, c2, c3, c4, c5, some (.fz (.int (8 : Nat))), x7, x8]) := by kernel_rfl
theorem lc9 : evE g cl l6_0 [c0, c1, c2, c3, c4, c5, some (.fz (.int (9 : Nat))), x7, x8] = some (.ok (.lst (bls 9)) [c0, c1, c2, c3, c4, c5, some (.fz (.int (9 : Nat))), x7, x8]) := by kernel_rfl
theorem lc10 : evE g cl l6_0 [c0, c1, c2, c3, c4, c5, some (.fz (.int (10 : Nat))), x7, x8] = some (.ok (.lst (bls 10)) [c0, c1, c2, c3, c4, c5, some (.fz (.int (10 : Nat))), x7, x8]) := by kernel_rfl
theorem lc11 : evE g cl l6_0 [c0, c1, c2, c3, c4, c5, some (.fz (.int (11 : Nat))), x7, x8] = some (.ok (.lst (bls 11)) [c0, c1, c2, c3, c4, c5, some (.fz (.int (11 : Nat))), x7, x8]) := by kernel_rfl
theorem row_lc {k : Nat} (hk : k < 12) : evE g cl l6_0 [c0, c1, c2, c3, c4, c5, some (.fz (.int k)), x7, x8] = some (.ok (.lst (bls k)) [c0, c1, c2, c3, c4, c5, some (.fz (.int k)), x7, x8]) := by
  match k, hk with
  | 0, _ => exact lc0
  | 1, _ => exact lc1
  | 2, _ => exact lc2
  | 3, _ => exact lc3
  | 4, _ => exact lc4
  | 5, _ => exact lc5
  | 6, _ => exact lc6
  | 7, _ => exact lc7
  | 8, _ => exact lc8
  | 9, _ => exact lc9
  | 10, _ => exact lc10
  | 11, _ => exact lc11
  | j + 12, h => exact absurd h (by omega)
theorem xi_all : ∀ k < 12, g.xi (some k) "PlanError" = some true ∧ g.xi (some k) "ValueError" = some true := by decide +kernel
theorem turn {k : Nat} (hk : k < 12) (e5 : cl 5 [.fz (.exc k [v])] = some (.ok (.lst (bls k)) ρ1)) (e4 : cl 4 [.fz (.lst (bls k)), .fz (.lst (bls k))] = some (.ok (.fz (.bl true)) ρ2)) :
    forF g cl n [0] (.tup [.name 6, .name 7]) b6_2 (.tup [.int k, .exc k [v]]) [c0, c1, c2, c3, c4, c5, x6, x7, x8] = some (.nx [c0, c1, c2, c3, c4, c5, some (.fz (.int k)), some (.fz (.exc k [v])), x8]) := by
  obtain ⟨h1, h2⟩ := xi_all k hk
  have el := row_lc (cl := cl) (c0 := c0) (c1 := c1) (c2 := c2) (c3 := c3) (c4 := c4) (c5 := c5) (x7 := some (.fz (.exc k [v]))) (x8 := x8) hk
  simp [forF, b6_2, s6_5, s6_7, evE.eq_16, evE.eq_22, evSs, evS.eq_1, evS.eq_2, evS.eq_3, evS.eq_5, evS.eq_6, evS.eq_7, evS.eq_8, evS.eq_9, evS.eq_12, evS.eq_13, evS.eq_15, evS.eq_16, evS.eq_17, evS_for, evI, rangeD, frzI, frzO, tgs, tgss, evE.eq_1, evE.eq_2, evE.eq_3, evE.eq_4, evE.eq_5, evE.eq_6, evE.eq_7, evE.eq_8, evE.eq_9, evE.eq_10, evE.eq_11, evE.eq_12, evE.eq_13, evE.eq_14, evE.eq_15, evE.eq_17, evE.eq_18, evE.eq_19, evE.eq_21, evE.eq_23, evE.eq_24, evE.eq_26, evE.eq_27, evO, evA, evD, evI, evAnd, evOr, evCs, callBy, agCells, lends, looks, Ag.cell, giveBack, bnO, Ev.bnd, tst, Od.d, Cell.d, ap1, ap2, apL, odsD, rdV, ixD, cmpD, truth, bltD, bmD, isiD, isTy, Ev.plain, asgC, asg, asgs, setC, setCs, updC, appC, isLst, isOwn, finO, itemsOf, seqOf, odLook, lookR, backR, wipeR, evPart, slD, recv, binD, opd_glo, opd_k, opd_tup, opd_lst, opd_bin, opd_neg, opd_not, opd_and, opd_or, opd_ife, opd_cmp, opd_cmp2, opd_ix, opd_sl, opd_call, opd_blt, opd_bm, opd_isi, opd_pop, opd_lc, opd_fnv, opd_callv, opd_xat, opd_isx, opd_mkx, mov_glo, mov_k, mov_tup, mov_lst, mov_bin, mov_neg, mov_not, mov_and, mov_or, mov_ife, mov_cmp, mov_cmp2, mov_ix, mov_sl, mov_call, mov_blt, mov_bm, mov_isi, mov_pop, mov_lc, mov_fnv, mov_callv, mov_xat, mov_isx, mov_mkx, arg_glo, arg_k, arg_tup, arg_lst, arg_bin, arg_neg, arg_not, arg_and, arg_or, arg_ife, arg_cmp, arg_cmp2, arg_ix, arg_sl, arg_call, arg_blt, arg_bm, arg_isi, arg_pop, arg_lc, arg_fnv, arg_callv, arg_xat, arg_isx, arg_mkx, opd_var, mov_var, arg_var, isxD, h1, h2, show g.fn 5 = some f5 from rfl, f5, show g.fn 4 = some f4 from rfl, f4, e5, l6_0o, l6_0a, l6_0m, el, e4]
end
end K00
end

section
set_option maxHeartbeats 0
namespace Pl
open PySem Ev
theorem okD_mono : ∀ {k m : Nat} {d : D}, okD k d → k ≤ m → okD m d
  | 0, _, d, o, _ => by cases d <;> simp [okD] at o
  | k + 1, 0, d, o, h => by omega
  | k + 1, m + 1, d, o, h => by
    cases d with
    | lst l => exact ⟨o.1, fun x hx => okD_mono (o.2 x hx) (by omega)⟩
    | tup l => exact ⟨o.1, fun x hx => okD_mono (o.2 x hx) (by omega)⟩
    | str s => exact o
    | non => exact o
    | bl b => exact o
    | int j => exact o
    | dic _ => simp [okD] at o
    | ins _ _ => simp [okD] at o
    | exc _ _ => simp [okD] at o
    | fn _ => simp [okD] at o
theorem drop_cases {α : Type} {l : List α} {k : Nat} {d : α} {ds : List α} (h : d :: ds = l.drop k) : l[k]? = some d ∧ ds = l.drop (k + 1) := by
  have h0 := congrArg (fun z => z[0]?) h
  have h1 := congrArg List.tail h
  simp only [List.getElem?_cons_zero, List.getElem?_drop, Nat.add_zero] at h0
  simp only [List.tail_cons, List.tail_drop] at h1
  exact ⟨h0.symm, h1⟩
end Pl
namespace K00
open PySem Ev Pl
def EL (far : Int) (tag : Str) : List D := [.exc 0 [.int far], .exc 1 [.int far], .exc 2 [.int far], .exc 3 [.str tag], .exc 4 [.tup []], .exc 5 [.int far], .exc 6 [.tup []], .exc 7 [.str tag], .exc 8 [.str tag], .exc 9 [.int far], .exc 10 [.int far], .exc 11 [.tup []]]
theorem el_at {far : Int} {tag : Str} {k : Nat} (hk : k < 12) : ∃ v, (enumL 0 (EL far tag))[k]? = some (.tup [.int k, .exc k [v]]) := by
  match k, hk with
  | 0, _ => exact ⟨_, rfl⟩
  | 1, _ => exact ⟨_, rfl⟩
  | 2, _ => exact ⟨_, rfl⟩
  | 3, _ => exact ⟨_, rfl⟩
  | 4, _ => exact ⟨_, rfl⟩
  | 5, _ => exact ⟨_, rfl⟩
  | 6, _ => exact ⟨_, rfl⟩
  | 7, _ => exact ⟨_, rfl⟩
  | 8, _ => exact ⟨_, rfl⟩
  | 9, _ => exact ⟨_, rfl⟩
  | 10, _ => exact ⟨_, rfl⟩
  | 11, _ => exact ⟨_, rfl⟩
  | j + 12, h => exact absurd h (by omega)
def tagL : List Str := ["a", "ants", "abcdefgh", "zz"]
theorem tag_shaped : ∀ x ∈ tagL, SeqAt.shaped (.str x) = true := by decide +kernel
def tagsE : Ex := .lst (.cons false (.k (.str "a")) (.cons false (.k (.str "ants")) (.cons false (.k (.str "abcdefgh")) (.cons false (.k (.str "zz")) .nil))))
section
variable {cl : Nat → List Cell → Option (R Cell)} {n : Nat} {c c1 c2 : Cell} {far r : Int} {tag : Str} {c6 c7 c8 : Option Cell} {ρ1 : Rho}
theorem r0 (e1 : evE g cl (.call 1 (.cons false (.var 0) (.cons false (.bin .pow (.k (.int 10)) (.k (.int 9))) .nil))) [some c, none, none, none, none, none, none, none, none] = some (.ok (.fz (.int r)) [some c1, none, none, none, none, none, none, none, none]))
    (e3 : evE g cl (.call 3 (.cons false (.var 0) (.cons false tagsE .nil))) [some c1, none, none, none, none, none, none, none, none] = some (.ok (.fz (.str tag)) [some c2, none, none, none, none, none, none, none, none])) :
    evS g cl n [0] s6_0 [some c, none, none, none, none, none, none, none, none] = some (.nx [some c2, none, none, none, some (.fz (.int (r - 500000000))), some (.fz (.str tag)), none, none, none]) := by
  simp only [tagsE] at e3
  have h5 : -small < (5 : Int) ∧ (5 : Int) < small := by decide
  simp [s6_0, evSs, evS.eq_1, evS.eq_2, evS.eq_3, evS.eq_5, evS.eq_6, evS.eq_7, evS.eq_8, evS.eq_9, evS.eq_12, evS.eq_13, evS.eq_15, evS.eq_16, evS.eq_17, evS_for, evI, rangeD, frzI, frzO, tgs, tgss, evE.eq_1, evE.eq_2, evE.eq_3, evE.eq_4, evE.eq_5, evE.eq_6, evE.eq_7, evE.eq_8, evE.eq_9, evE.eq_10, evE.eq_11, evE.eq_12, evE.eq_13, evE.eq_14, evE.eq_15, evE.eq_17, evE.eq_18, evE.eq_19, evE.eq_21, evE.eq_23, evE.eq_24, evE.eq_26, evE.eq_27, evO, evA, evD, evI, evAnd, evOr, evCs, callBy, agCells, lends, looks, Ag.cell, giveBack, bnO, Ev.bnd, tst, Od.d, Cell.d, ap1, ap2, apL, odsD, rdV, ixD, cmpD, truth, bltD, bmD, isiD, isTy, Ev.plain, asgC, asg, asgs, setC, setCs, updC, appC, isLst, isOwn, finO, itemsOf, seqOf, odLook, lookR, backR, wipeR, evPart, slD, recv, binD, opd_glo, opd_k, opd_tup, opd_lst, opd_bin, opd_neg, opd_not, opd_and, opd_or, opd_ife, opd_cmp, opd_cmp2, opd_ix, opd_sl, opd_call, opd_blt, opd_bm, opd_isi, opd_pop, opd_lc, opd_fnv, opd_callv, opd_xat, opd_isx, opd_mkx, mov_glo, mov_k, mov_tup, mov_lst, mov_bin, mov_neg, mov_not, mov_and, mov_or, mov_ife, mov_cmp, mov_cmp2, mov_ix, mov_sl, mov_call, mov_blt, mov_bm, mov_isi, mov_pop, mov_lc, mov_fnv, mov_callv, mov_xat, mov_isx, mov_mkx, arg_glo, arg_k, arg_tup, arg_lst, arg_bin, arg_neg, arg_not, arg_and, arg_or, arg_ife, arg_cmp, arg_cmp2, arg_ix, arg_sl, arg_call, arg_blt, arg_bm, arg_isi, arg_pop, arg_lc, arg_fnv, arg_callv, arg_xat, arg_isx, arg_mkx, opd_var, mov_var, arg_var, e1, e3, h5]
theorem r1 : evS g cl n [0] s6_1 [some c, none, none, none, some (.fz (.int far)), some (.fz (.str tag)), none, none, none] = some (.nx [some c, some (.lst [.exc 0 [.int far], .exc 1 [.int far], .exc 2 [.int far], .exc 3 [.str tag]]), none, none, some (.fz (.int far)), some (.fz (.str tag)), none, none, none]) := by kernel_rfl
theorem r2 : evS g cl n [0] s6_2 [some c, some (.lst [.exc 0 [.int far], .exc 1 [.int far], .exc 2 [.int far], .exc 3 [.str tag]]), none, none, some (.fz (.int far)), some (.fz (.str tag)), none, none, none] = some (.nx [some c, some (.lst [.exc 0 [.int far], .exc 1 [.int far], .exc 2 [.int far], .exc 3 [.str tag], .exc 4 [.tup []], .exc 5 [.int far], .exc 6 [.tup []]]), none, none, some (.fz (.int far)), some (.fz (.str tag)), none, none, none]) := by kernel_rfl
theorem r3 : evS g cl n [0] s6_3 [some c, some (.lst [.exc 0 [.int far], .exc 1 [.int far], .exc 2 [.int far], .exc 3 [.str tag], .exc 4 [.tup []], .exc 5 [.int far], .exc 6 [.tup []]]), none, none, some (.fz (.int far)), some (.fz (.str tag)), none, none, none] = some (.nx [some c, some (.lst (EL far tag)), none, none, some (.fz (.int far)), some (.fz (.str tag)), none, none, none]) := by kernel_rfl
def fr (c : Cell) (far : Int) (tag : Str) (x6 x7 : Option Cell) (got due : List D) : Rho := [some c, some (.fz (.lst (EL far tag))), some (.lst got), some (.lst due), some (.fz (.int far)), some (.fz (.str tag)), x6, x7, none]
def G1 (far : Int) (tag : Str) : List D := [.int far, .int far, .int far, .str tag, .int far]
def G2 (far : Int) (tag : Str) : List D := G1 far tag ++ [.str tag, .str tag, .int far, .int far]
def G3 (far : Int) (tag : Str) : List D := G2 far tag ++ [.int far, .int 7, .int (-1), .str "b"]
def G4 (far : Int) (tag : Str) : List D := G3 far tag ++ [.int 3, .str tag, .str tag, .int far]
def G5 (far : Int) (tag : Str) : List D := G4 far tag ++ [.int 1000000000000000000000000000000]
theorem r9 : evS g cl n [0] s6_9 [some c, some (.fz (.lst (EL far tag))), none, none, some (.fz (.int far)), some (.fz (.str tag)), c6, c7, none] = some (.nx [some c, some (.fz (.lst (EL far tag))), some (.lst (G1 far tag)), none, some (.fz (.int far)), some (.fz (.str tag)), c6, c7, none]) := by kernel_rfl
theorem r10 : evS g cl n [0] s6_10 [some c, some (.fz (.lst (EL far tag))), some (.lst (G1 far tag)), none, some (.fz (.int far)), some (.fz (.str tag)), c6, c7, none] = some (.nx [some c, some (.fz (.lst (EL far tag))), some (.lst (G2 far tag)), none, some (.fz (.int far)), some (.fz (.str tag)), c6, c7, none]) := by kernel_rfl
theorem r11 : evS g cl n [0] s6_11 [some c, some (.fz (.lst (EL far tag))), some (.lst (G2 far tag)), none, some (.fz (.int far)), some (.fz (.str tag)), c6, c7, none] = some (.nx (fr c far tag c6 c7 (G2 far tag) (G2 far tag))) := by kernel_rfl
theorem r12 : evS g cl n [0] s6_12 (fr c far tag c6 c7 (G2 far tag) (G2 far tag)) = some (.nx (fr c far tag c6 c7 (G2 far tag ++ [.int far, .int 7]) (G2 far tag))) := by kernel_rfl
theorem r13 : evS g cl n [0] s6_13 (fr c far tag c6 c7 (G2 far tag ++ [.int far, .int 7]) (G2 far tag)) = some (.nx (fr c far tag c6 c7 (G3 far tag) (G2 far tag))) := by kernel_rfl
theorem r14 : evS g cl n [0] s6_14 (fr c far tag c6 c7 (G3 far tag) (G2 far tag)) = some (.nx (fr c far tag c6 c7 (G3 far tag) (G3 far tag))) := by kernel_rfl
theorem r15 : evS g cl n [0] s6_15 (fr c far tag c6 c7 (G3 far tag) (G3 far tag)) = some (.nx (fr c far tag c6 c7 (G3 far tag ++ [.int 3, .str tag]) (G3 far tag))) := by kernel_rfl
theorem r16 : evS g cl n [0] s6_16 (fr c far tag c6 c7 (G3 far tag ++ [.int 3, .str tag]) (G3 far tag)) = some (.nx (fr c far tag c6 c7 (G4 far tag) (G3 far tag))) := by kernel_rfl
theorem a17 : evA g cl (sameF 4) 0 (.cons false (.bin .add (.var 2) (.lst (.cons false (.xat "number" (.mkx 9 (.cons false (.bin .pow (.k (.int 10)) (.k (.int 30))) .nil))) .nil))) (.cons false (.bin .add (.var 3) (.lst (.cons false (.k (.int 3)) (.cons false (.var 5) (.cons false (.var 5) (.cons false (.var 4) (.cons false (.bin .pow (.k (.int 10)) (.k (.int 30))) .nil))))))) .nil)) (fr c far tag c6 c7 (G4 far tag) (G3 far tag)) = some (.ok ([.fz (.lst (G5 far tag)), .fz (.lst (G5 far tag))].map .tmp) (fr c far tag c6 c7 (G4 far tag) (G3 far tag))) := by kernel_rfl
theorem r17 (e4 : cl 4 [.fz (.lst (G5 far tag)), .fz (.lst (G5 far tag))] = some (.ok (.fz (.bl true)) ρ1)) : evS g cl n [0] s6_17 (fr c far tag c6 c7 (G4 far tag) (G3 far tag)) = some (.rt (.fz (.bl true)) (fr c far tag c6 c7 (G4 far tag) (G3 far tag))) := by
  have hf : g.fn 4 = some (sameF 4) := rfl
  have e : evE g cl (.call 4 (.cons false (.bin .add (.var 2) (.lst (.cons false (.xat "number" (.mkx 9 (.cons false (.bin .pow (.k (.int 10)) (.k (.int 30))) .nil))) .nil))) (.cons false (.bin .add (.var 3) (.lst (.cons false (.k (.int 3)) (.cons false (.var 5) (.cons false (.var 5) (.cons false (.var 4) (.cons false (.bin .pow (.k (.int 10)) (.k (.int 30))) .nil))))))) .nil))) (fr c far tag c6 c7 (G4 far tag) (G3 far tag)) = some (.ok (.fz (.bl true)) (fr c far tag c6 c7 (G4 far tag) (G3 far tag))) := by
    rw [evE.eq_16, hf]
    simp only [a17, Ev.bnd, List.map_cons, List.map_nil, callBy, agCells, Ag.cell, e4, giveBack]
    rfl
  rw [s6_17, evS.eq_8, mov_call, e]
  rfl
end
theorem ok_bls (k : Nat) : okD 2 (.lst (bls k)) := ⟨by simp [bls, sizeLine], fun d hd => by
  obtain ⟨j, _, rfl⟩ := List.mem_map.mp hd
  trivial⟩
theorem ok_g5 {far : Int} {tag : Str} (h : tag ∈ tagL) : okD 2 (.lst (G5 far tag)) := by
  have ht := tag_shaped tag h
  have hb : SeqAt.shaped (.str "b") = true := by decide +kernel
  have key : ∀ d ∈ G5 far tag, (∃ i, d = .int i) ∨ d = .str tag ∨ d = .str "b" := by simp [G5, G4, G3, G2, G1]
  refine ⟨by simp [G5, G4, G3, G2, G1, sizeLine], fun d hd => ?_⟩
  rcases key d hd with ⟨i, rfl⟩ | rfl | rfl
  · trivial
  · exact ht
  · exact hb
theorem right_ok {m : Int} {c : Cell} (hm : m < 2 ^ 40) (hB : Bx m c) : ∃ (ρ : Rho), evCall g 0 99 6 [c] = some (.ok (.fz (.bl true)) ρ) := by
  rw [call_eq (show g.fn 6 = some f6 from rfl) rfl (show 1 ≤ 9 by decide)]
  obtain ⟨r, c1, e1, B1, r0', r1'⟩ := draw (g := g) (n := 0) (k := 97) (t := 1) (i := 0) rfl (show m < 2 ^ 59 by omega) hB (ρ := [some c, none, none, none, none, none, none, none, none]) rfl (s := 1000000000) (by decide) (by decide) (e := .bin .pow (.k (.int 10)) (.k (.int 9))) (by simp [evSs, evS.eq_1, evS.eq_2, evS.eq_3, evS.eq_5, evS.eq_6, evS.eq_7, evS.eq_8, evS.eq_9, evS.eq_12, evS.eq_13, evS.eq_15, evS.eq_16, evS.eq_17, evS_for, evI, rangeD, frzI, frzO, tgs, tgss, evE.eq_1, evE.eq_2, evE.eq_3, evE.eq_4, evE.eq_5, evE.eq_6, evE.eq_7, evE.eq_8, evE.eq_9, evE.eq_10, evE.eq_11, evE.eq_12, evE.eq_13, evE.eq_14, evE.eq_15, evE.eq_17, evE.eq_18, evE.eq_19, evE.eq_21, evE.eq_23, evE.eq_24, evE.eq_26, evE.eq_27, evO, evA, evD, evI, evAnd, evOr, evCs, callBy, agCells, lends, looks, Ag.cell, giveBack, bnO, Ev.bnd, tst, Od.d, Cell.d, ap1, ap2, apL, odsD, rdV, ixD, cmpD, truth, bltD, bmD, isiD, isTy, Ev.plain, asgC, asg, asgs, setC, setCs, updC, appC, isLst, isOwn, finO, itemsOf, seqOf, odLook, lookR, backR, wipeR, evPart, slD, recv, binD, opd_glo, opd_k, opd_tup, opd_lst, opd_bin, opd_neg, opd_not, opd_and, opd_or, opd_ife, opd_cmp, opd_cmp2, opd_ix, opd_sl, opd_call, opd_blt, opd_bm, opd_isi, opd_pop, opd_lc, opd_fnv, opd_callv, opd_xat, opd_isx, opd_mkx, mov_glo, mov_k, mov_tup, mov_lst, mov_bin, mov_neg, mov_not, mov_and, mov_or, mov_ife, mov_cmp, mov_cmp2, mov_ix, mov_sl, mov_call, mov_blt, mov_bm, mov_isi, mov_pop, mov_lc, mov_fnv, mov_callv, mov_xat, mov_isx, mov_mkx, arg_glo, arg_k, arg_tup, arg_lst, arg_bin, arg_neg, arg_not, arg_and, arg_or, arg_ife, arg_cmp, arg_cmp2, arg_ix, arg_sl, arg_call, arg_blt, arg_bm, arg_isi, arg_pop, arg_lc, arg_fnv, arg_callv, arg_xat, arg_isx, arg_mkx, opd_var, mov_var, arg_var, takeF])
  obtain ⟨x, ρa, c2, ea, ea0, B2, hx⟩ := of_ok (g := g) (n := 0) (k := 96) (t := 1) (o := 3) rfl rfl (by omega) B1 (l := tagL.map .str) (by simp [tagL]) (by simp [tagL])
  obtain ⟨tag, ht, rfl⟩ := List.mem_map.mp hx
  obtain ⟨q1, q2, q3, rfl, _⟩ := id hB
  obtain ⟨s1, s2, s3, rfl, _⟩ := id B1
  obtain ⟨t1, t2, t3, rfl, _⟩ := id B2
  have hz : (4 : Nat) ≤ sizeLine := by decide
  have e3 : evE g (evCall g 0 98) (.call 3 (.cons false (.var 0) (.cons false tagsE .nil))) [some (bx s1 s2 s3), none, none, none, none, none, none, none, none] = some (.ok (.fz (.str tag)) [some (bx t1 t2 t3), none, none, none, none, none, none, none, none]) :=
    lendCall (g := g) (fd := ofF 1) rfl rfl (i := 0) rfl (es := .cons false tagsE .nil) (ρ1 := [some (bx s1 s2 s3), none, none, none, none, none, none, none, none]) (cs := [.fz (.lst (tagL.map .str))]) (by simp [tagsE, evSs, evS.eq_1, evS.eq_2, evS.eq_3, evS.eq_5, evS.eq_6, evS.eq_7, evS.eq_8, evS.eq_9, evS.eq_12, evS.eq_13, evS.eq_15, evS.eq_16, evS.eq_17, evS_for, evI, rangeD, frzI, frzO, tgs, tgss, evE.eq_1, evE.eq_2, evE.eq_3, evE.eq_4, evE.eq_5, evE.eq_6, evE.eq_7, evE.eq_8, evE.eq_9, evE.eq_10, evE.eq_11, evE.eq_12, evE.eq_13, evE.eq_14, evE.eq_15, evE.eq_17, evE.eq_18, evE.eq_19, evE.eq_21, evE.eq_23, evE.eq_24, evE.eq_26, evE.eq_27, evO, evA, evD, evI, evAnd, evOr, evCs, callBy, agCells, lends, looks, Ag.cell, giveBack, bnO, Ev.bnd, tst, Od.d, Cell.d, ap1, ap2, apL, odsD, rdV, ixD, cmpD, truth, bltD, bmD, isiD, isTy, Ev.plain, asgC, asg, asgs, setC, setCs, updC, appC, isLst, isOwn, finO, itemsOf, seqOf, odLook, lookR, backR, wipeR, evPart, slD, recv, binD, opd_glo, opd_k, opd_tup, opd_lst, opd_bin, opd_neg, opd_not, opd_and, opd_or, opd_ife, opd_cmp, opd_cmp2, opd_ix, opd_sl, opd_call, opd_blt, opd_bm, opd_isi, opd_pop, opd_lc, opd_fnv, opd_callv, opd_xat, opd_isx, opd_mkx, mov_glo, mov_k, mov_tup, mov_lst, mov_bin, mov_neg, mov_not, mov_and, mov_or, mov_ife, mov_cmp, mov_cmp2, mov_ix, mov_sl, mov_call, mov_blt, mov_bm, mov_isi, mov_pop, mov_lc, mov_fnv, mov_callv, mov_xat, mov_isx, mov_mkx, arg_glo, arg_k, arg_tup, arg_lst, arg_bin, arg_neg, arg_not, arg_and, arg_or, arg_ife, arg_cmp, arg_cmp2, arg_ix, arg_sl, arg_call, arg_blt, arg_bm, arg_isi, arg_pop, arg_lc, arg_fnv, arg_callv, arg_xat, arg_isx, arg_mkx, opd_var, mov_var, arg_var, ofF, tagL, hz]) rfl rfl ea ea0
  obtain ⟨ρ', e, k, x6, x7, h1, h2, rfl⟩ := forL_inv (f := forF g (evCall g 0 98) 0 [0] (.tup [.name 6, .name 7]) b6_2) (P := fun rest ρ => ∃ (k : Nat) (x6 x7 : Option Cell), rest = (enumL 0 (EL (r - 500000000) tag)).drop k ∧ k ≤ 12 ∧ ρ = [some (bx t1 t2 t3), some (.fz (.lst (EL (r - 500000000) tag))), none, none, some (.fz (.int (r - 500000000))), some (.fz (.str tag)), x6, x7, none])
    (ds := enumL 0 (EL (r - 500000000) tag)) (ρ := [some (bx t1 t2 t3), some (.fz (.lst (EL (r - 500000000) tag))), none, none, some (.fz (.int (r - 500000000))), some (.fz (.str tag)), none, none, none]) ⟨0, none, none, rfl, by decide, rfl⟩ fun d ds ρ ⟨k, x6, x7, h1, h2, hr⟩ => by
      subst hr
      obtain ⟨hd, rfl⟩ := drop_cases h1
      have hk : k < 12 := by
        have := (List.getElem?_eq_some_iff.mp hd).1
        exact this
      obtain ⟨v, hv⟩ := el_at (far := r - 500000000) (tag := tag) hk
      rw [hv] at hd
      cases hd
      obtain ⟨ρ5, e5⟩ := sorts_ok (n := 0) (K := 97) hk v
      obtain ⟨ρ4, e4⟩ := same_ok (g := g) (n := 0) (i := 4) rfl 98 (.lst (bls k)) (okD_mono (ok_bls k) (by decide))
      exact ⟨_, turn hk e5 e4, k + 1, _, _, rfl, by omega, rfl⟩
  have r8 : evS g (evCall g 0 98) 0 [0] s6_8 [some (bx t1 t2 t3), some (.lst (EL (r - 500000000) tag)), none, none, some (.fz (.int (r - 500000000))), some (.fz (.str tag)), none, none, none] = some (.nx [some (bx t1 t2 t3), some (.fz (.lst (EL (r - 500000000) tag))), none, none, some (.fz (.int (r - 500000000))), some (.fz (.str tag)), x6, x7, none]) := by
    have hi : evI g (evCall g 0 98) (.enum (.var 1) 0) [some (bx t1 t2 t3), some (.lst (EL (r - 500000000) tag)), none, none, some (.fz (.int (r - 500000000))), some (.fz (.str tag)), none, none, none] = some (.ok (enumL 0 (EL (r - 500000000) tag), [1]) [some (bx t1 t2 t3), some (.lst (EL (r - 500000000) tag)), none, none, some (.fz (.int (r - 500000000))), some (.fz (.str tag)), none, none, none]) := by simp [evSs, evS.eq_1, evS.eq_2, evS.eq_3, evS.eq_5, evS.eq_6, evS.eq_7, evS.eq_8, evS.eq_9, evS.eq_12, evS.eq_13, evS.eq_15, evS.eq_16, evS.eq_17, evS_for, evI, rangeD, frzI, frzO, tgs, tgss, evE.eq_1, evE.eq_2, evE.eq_3, evE.eq_4, evE.eq_5, evE.eq_6, evE.eq_7, evE.eq_8, evE.eq_9, evE.eq_10, evE.eq_11, evE.eq_12, evE.eq_13, evE.eq_14, evE.eq_15, evE.eq_17, evE.eq_18, evE.eq_19, evE.eq_21, evE.eq_23, evE.eq_24, evE.eq_26, evE.eq_27, evO, evA, evD, evI, evAnd, evOr, evCs, callBy, agCells, lends, looks, Ag.cell, giveBack, bnO, Ev.bnd, tst, Od.d, Cell.d, ap1, ap2, apL, odsD, rdV, ixD, cmpD, truth, bltD, bmD, isiD, isTy, Ev.plain, asgC, asg, asgs, setC, setCs, updC, appC, isLst, isOwn, finO, itemsOf, seqOf, odLook, lookR, backR, wipeR, evPart, slD, recv, binD, opd_glo, opd_k, opd_tup, opd_lst, opd_bin, opd_neg, opd_not, opd_and, opd_or, opd_ife, opd_cmp, opd_cmp2, opd_ix, opd_sl, opd_call, opd_blt, opd_bm, opd_isi, opd_pop, opd_lc, opd_fnv, opd_callv, opd_xat, opd_isx, opd_mkx, mov_glo, mov_k, mov_tup, mov_lst, mov_bin, mov_neg, mov_not, mov_and, mov_or, mov_ife, mov_cmp, mov_cmp2, mov_ix, mov_sl, mov_call, mov_blt, mov_bm, mov_isi, mov_pop, mov_lc, mov_fnv, mov_callv, mov_xat, mov_isx, mov_mkx, arg_glo, arg_k, arg_tup, arg_lst, arg_bin, arg_neg, arg_not, arg_and, arg_or, arg_ife, arg_cmp, arg_cmp2, arg_ix, arg_sl, arg_call, arg_blt, arg_bm, arg_isi, arg_pop, arg_lc, arg_fnv, arg_callv, arg_xat, arg_isx, arg_mkx, opd_var, mov_var, arg_var]
    rw [s6_8, evS_for, hi]
    simp [bnO, tgs, tgss, frzI, frzO, isOwn, Cell.d, e]
  obtain ⟨ρ4, e4⟩ := same_ok (g := g) (n := 0) (i := 4) rfl 98 (.lst (G5 (r - 500000000) tag)) (okD_mono (ok_g5 ht) (by decide))
  exact ⟨_, (congrArg finO ((evSs_nx (r0 e1 e3)).trans ((evSs_nx r1).trans ((evSs_nx r2).trans ((evSs_nx r3).trans ((evSs_nx r8).trans ((evSs_nx r9).trans ((evSs_nx r10).trans ((evSs_nx r11).trans ((evSs_nx r12).trans ((evSs_nx r13).trans ((evSs_nx r14).trans ((evSs_nx r15).trans ((evSs_nx r16).trans (evSs_rt (r17 e4)))))))))))))))).trans rfl⟩
end K00
end

section
set_option maxHeartbeats 0
namespace K00
open PySem Ev Pl
section
variable {cl : Nat → List Cell → Option (R Cell)} {n : Nat} {sc js : D} {ρ1 ρ2 ρ3 : Rho} {c F : Cell} {j : Int} {y : Option Cell} {m : Nat}
theorem law_turn {ds : List D} (eb : cl 0 [.fz (.lst ds), .fz (.int j)] = some (.ok c ρ1)) (er : cl 6 [c] = some (.ok (.fz (.bl true)) ρ2)) (hF : F = .lst ds ∨ F = .fz (.lst ds)) :
    lcF g cl l7_0e (.name 2) .nil (.int j) (wipeR [some (.fz sc), some F, y] [2]) = some (.ok (some (.bl true)) [some (.fz sc), some (.fz (.lst ds)), some (.fz (.int j))]) := by
  rcases hF with rfl | rfl <;> simp [lcF, l7_0e, evE.eq_16, evE.eq_22, evSs, evS.eq_1, evS.eq_2, evS.eq_3, evS.eq_5, evS.eq_6, evS.eq_7, evS.eq_8, evS.eq_9, evS.eq_12, evS.eq_13, evS.eq_15, evS.eq_16, evS.eq_17, evS_for, evI, rangeD, frzI, frzO, tgs, tgss, evE.eq_1, evE.eq_2, evE.eq_3, evE.eq_4, evE.eq_5, evE.eq_6, evE.eq_7, evE.eq_8, evE.eq_9, evE.eq_10, evE.eq_11, evE.eq_12, evE.eq_13, evE.eq_14, evE.eq_15, evE.eq_17, evE.eq_18, evE.eq_19, evE.eq_21, evE.eq_23, evE.eq_24, evE.eq_26, evE.eq_27, evO, evA, evD, evI, evAnd, evOr, evCs, callBy, agCells, lends, looks, Ag.cell, giveBack, bnO, Ev.bnd, tst, Od.d, Cell.d, ap1, ap2, apL, odsD, rdV, ixD, cmpD, truth, bltD, bmD, isiD, isTy, Ev.plain, asgC, asg, asgs, setC, setCs, updC, appC, isLst, isOwn, finO, itemsOf, seqOf, odLook, lookR, backR, wipeR, evPart, slD, recv, binD, opd_glo, opd_k, opd_tup, opd_lst, opd_bin, opd_neg, opd_not, opd_and, opd_or, opd_ife, opd_cmp, opd_cmp2, opd_ix, opd_sl, opd_call, opd_blt, opd_bm, opd_isi, opd_pop, opd_lc, opd_fnv, opd_callv, opd_xat, opd_isx, opd_mkx, mov_glo, mov_k, mov_tup, mov_lst, mov_bin, mov_neg, mov_not, mov_and, mov_or, mov_ife, mov_cmp, mov_cmp2, mov_ix, mov_sl, mov_call, mov_blt, mov_bm, mov_isi, mov_pop, mov_lc, mov_fnv, mov_callv, mov_xat, mov_isx, mov_mkx, arg_glo, arg_k, arg_tup, arg_lst, arg_bin, arg_neg, arg_not, arg_and, arg_or, arg_ife, arg_cmp, arg_cmp2, arg_ix, arg_sl, arg_call, arg_blt, arg_bm, arg_isi, arg_pop, arg_lc, arg_fnv, arg_callv, arg_xat, arg_isx, arg_mkx, opd_var, mov_var, arg_var, show g.fn 6 = some f6 from rfl, f6, show g.fn 0 = some f0 from rfl, f0, eb, er]
theorem law_s1 {ds : List D} (e2 : cl 2 [.fz sc, .fz (.int 3)] = some (.ok (.lst ds) ρ1)) : evS g cl n [] s7_0 [some (.fz sc), none, none] = some (.nx [some (.fz sc), some (.lst ds), none]) := by
  simp [s7_0, evE.eq_16, evE.eq_22, evSs, evS.eq_1, evS.eq_2, evS.eq_3, evS.eq_5, evS.eq_6, evS.eq_7, evS.eq_8, evS.eq_9, evS.eq_12, evS.eq_13, evS.eq_15, evS.eq_16, evS.eq_17, evS_for, evI, rangeD, frzI, frzO, tgs, tgss, evE.eq_1, evE.eq_2, evE.eq_3, evE.eq_4, evE.eq_5, evE.eq_6, evE.eq_7, evE.eq_8, evE.eq_9, evE.eq_10, evE.eq_11, evE.eq_12, evE.eq_13, evE.eq_14, evE.eq_15, evE.eq_17, evE.eq_18, evE.eq_19, evE.eq_21, evE.eq_23, evE.eq_24, evE.eq_26, evE.eq_27, evO, evA, evD, evI, evAnd, evOr, evCs, callBy, agCells, lends, looks, Ag.cell, giveBack, bnO, Ev.bnd, tst, Od.d, Cell.d, ap1, ap2, apL, odsD, rdV, ixD, cmpD, truth, bltD, bmD, isiD, isTy, Ev.plain, asgC, asg, asgs, setC, setCs, updC, appC, isLst, isOwn, finO, itemsOf, seqOf, odLook, lookR, backR, wipeR, evPart, slD, recv, binD, opd_glo, opd_k, opd_tup, opd_lst, opd_bin, opd_neg, opd_not, opd_and, opd_or, opd_ife, opd_cmp, opd_cmp2, opd_ix, opd_sl, opd_call, opd_blt, opd_bm, opd_isi, opd_pop, opd_lc, opd_fnv, opd_callv, opd_xat, opd_isx, opd_mkx, mov_glo, mov_k, mov_tup, mov_lst, mov_bin, mov_neg, mov_not, mov_and, mov_or, mov_ife, mov_cmp, mov_cmp2, mov_ix, mov_sl, mov_call, mov_blt, mov_bm, mov_isi, mov_pop, mov_lc, mov_fnv, mov_callv, mov_xat, mov_isx, mov_mkx, arg_glo, arg_k, arg_tup, arg_lst, arg_bin, arg_neg, arg_not, arg_and, arg_or, arg_ife, arg_cmp, arg_cmp2, arg_ix, arg_sl, arg_call, arg_blt, arg_bm, arg_isi, arg_pop, arg_lc, arg_fnv, arg_callv, arg_xat, arg_isx, arg_mkx, opd_var, mov_var, arg_var, show g.fn 2 = some f2 from rfl, f2, e2]
theorem law_s2 {G : Cell} (el : evE g cl l7_0 [some (.fz sc), some F, none] = some (.ok (.lst (List.replicate m (.bl true))) [some (.fz sc), some G, none])) :
    evS g cl n [] s7_1 [some (.fz sc), some F, none] = some (.rt (.fz (.bl true)) [some (.fz sc), some G, none]) := by
  simp [s7_1, evSs, evS.eq_1, evS.eq_2, evS.eq_3, evS.eq_5, evS.eq_6, evS.eq_7, evS.eq_8, evS.eq_9, evS.eq_12, evS.eq_13, evS.eq_15, evS.eq_16, evS.eq_17, evS_for, evI, rangeD, frzI, frzO, tgs, tgss, evE.eq_1, evE.eq_2, evE.eq_3, evE.eq_4, evE.eq_5, evE.eq_6, evE.eq_7, evE.eq_8, evE.eq_9, evE.eq_10, evE.eq_11, evE.eq_12, evE.eq_13, evE.eq_14, evE.eq_15, evE.eq_17, evE.eq_18, evE.eq_19, evE.eq_21, evE.eq_23, evE.eq_24, evE.eq_26, evE.eq_27, evO, evA, evD, evI, evAnd, evOr, evCs, callBy, agCells, lends, looks, Ag.cell, giveBack, bnO, Ev.bnd, tst, Od.d, Cell.d, ap1, ap2, apL, odsD, rdV, ixD, cmpD, truth, bltD, bmD, isiD, isTy, Ev.plain, asgC, asg, asgs, setC, setCs, updC, appC, isLst, isOwn, finO, itemsOf, seqOf, odLook, lookR, backR, wipeR, evPart, slD, recv, binD, opd_glo, opd_k, opd_tup, opd_lst, opd_bin, opd_neg, opd_not, opd_and, opd_or, opd_ife, opd_cmp, opd_cmp2, opd_ix, opd_sl, opd_call, opd_blt, opd_bm, opd_isi, opd_pop, opd_lc, opd_fnv, opd_callv, opd_xat, opd_isx, opd_mkx, mov_glo, mov_k, mov_tup, mov_lst, mov_bin, mov_neg, mov_not, mov_and, mov_or, mov_ife, mov_cmp, mov_cmp2, mov_ix, mov_sl, mov_call, mov_blt, mov_bm, mov_isi, mov_pop, mov_lc, mov_fnv, mov_callv, mov_xat, mov_isx, mov_mkx, arg_glo, arg_k, arg_tup, arg_lst, arg_bin, arg_neg, arg_not, arg_and, arg_or, arg_ife, arg_cmp, arg_cmp2, arg_ix, arg_sl, arg_call, arg_blt, arg_bm, arg_isi, arg_pop, arg_lc, arg_fnv, arg_callv, arg_xat, arg_isx, arg_mkx, opd_var, mov_var, arg_var, l7_0o, el, boolsRep]
end
theorem says : Says := fun ns hl => by
  refine ⟨0, ?_⟩
  obtain ⟨is, ρ1, e2, l0, l3⟩ := cells_ok (n := 0) (k := 98) (ns := ns)
  have e0 : ∀ j : Nat, j < is.length → ∃ ρ c, evCall g 0 99 0 [.fz (.lst (is.map .int)), .fz (.int j)] = some (.ok c ρ) ∧ Bx 0 c := fun j hj => box_ok hj (by omega)
  obtain ⟨l', ρ', e, j, F, y2, h1, h2, h3, h4, rfl⟩ := lcL_inv (own := [2]) (f := lcF g (evCall g 0 99) l7_0e (.name 2) .nil)
    (P := fun rest acc ρ => ∃ (j : Nat) (F : Cell) (y : Option Cell), rest = rngI j (is.length - j) ∧ j ≤ is.length ∧ (F = .lst (is.map .int) ∨ F = .fz (.lst (is.map .int))) ∧ acc = List.replicate j (.bl true) ∧ ρ = [some (.fz (.lst (ns.map .int))), some F, y])
    (ds := rngI 0 is.length) (acc := []) (ρ := [some (.fz (.lst (ns.map .int))), some (.lst (is.map .int)), none]) ⟨0, _, none, rfl, by omega, Or.inl rfl, rfl, rfl⟩ (by simp [rng_len, sizeLine]; omega) fun d ds acc ρ ⟨j, F, y, h1, h2, h3, h4, hr⟩ => by
      subst hr h4
      obtain ⟨n', e1, rfl, rfl⟩ := rng_cases h1
      obtain ⟨ρ2, c, eb, B⟩ := e0 j (by omega)
      obtain ⟨ρ3, er⟩ := right_ok (by decide) B
      exact ⟨some (.bl true), [some (.fz (.lst (ns.map .int))), some (.fz (.lst (is.map .int))), some (.fz (.int j))], law_turn eb er h3, j + 1, _, _, by rw [show is.length - (j + 1) = n' by omega]; rfl, by omega, Or.inr rfl, by rw [List.replicate_succ']; rfl, rfl⟩
  have hi : evI g (evCall g 0 99) l7_0i [some (.fz (.lst (ns.map .int))), some (.lst (is.map .int)), none] = some (.ok (rngI 0 is.length, []) [some (.fz (.lst (ns.map .int))), some (.lst (is.map .int)), none]) := by
    have z := range_of (g := g) (g' := evCall g 0 99) (es := .cons false (.blt .len (.cons false (.var 1) .nil)) .nil) (ρ := [some (.fz (.lst (ns.map .int))), some (.lst (is.map .int)), none]) (ρ1 := [some (.fz (.lst (ns.map .int))), some (.lst (is.map .int)), none]) (J := (is.length : Int)) (by simp [evSs, evS.eq_1, evS.eq_2, evS.eq_3, evS.eq_5, evS.eq_6, evS.eq_7, evS.eq_8, evS.eq_9, evS.eq_12, evS.eq_13, evS.eq_15, evS.eq_16, evS.eq_17, evS_for, evI, rangeD, frzI, frzO, tgs, tgss, evE.eq_1, evE.eq_2, evE.eq_3, evE.eq_4, evE.eq_5, evE.eq_6, evE.eq_7, evE.eq_8, evE.eq_9, evE.eq_10, evE.eq_11, evE.eq_12, evE.eq_13, evE.eq_14, evE.eq_15, evE.eq_17, evE.eq_18, evE.eq_19, evE.eq_21, evE.eq_23, evE.eq_24, evE.eq_26, evE.eq_27, evO, evA, evD, evI, evAnd, evOr, evCs, callBy, agCells, lends, looks, Ag.cell, giveBack, bnO, Ev.bnd, tst, Od.d, Cell.d, ap1, ap2, apL, odsD, rdV, ixD, cmpD, truth, bltD, bmD, isiD, isTy, Ev.plain, asgC, asg, asgs, setC, setCs, updC, appC, isLst, isOwn, finO, itemsOf, seqOf, odLook, lookR, backR, wipeR, evPart, slD, recv, binD, opd_glo, opd_k, opd_tup, opd_lst, opd_bin, opd_neg, opd_not, opd_and, opd_or, opd_ife, opd_cmp, opd_cmp2, opd_ix, opd_sl, opd_call, opd_blt, opd_bm, opd_isi, opd_pop, opd_lc, opd_fnv, opd_callv, opd_xat, opd_isx, opd_mkx, mov_glo, mov_k, mov_tup, mov_lst, mov_bin, mov_neg, mov_not, mov_and, mov_or, mov_ife, mov_cmp, mov_cmp2, mov_ix, mov_sl, mov_call, mov_blt, mov_bm, mov_isi, mov_pop, mov_lc, mov_fnv, mov_callv, mov_xat, mov_isx, mov_mkx, arg_glo, arg_k, arg_tup, arg_lst, arg_bin, arg_neg, arg_not, arg_and, arg_or, arg_ife, arg_cmp, arg_cmp2, arg_ix, arg_sl, arg_call, arg_blt, arg_bm, arg_isi, arg_pop, arg_lc, arg_fnv, arg_callv, arg_xat, arg_isx, arg_mkx, opd_var, mov_var, arg_var]) (by omega) (by omega)
    rw [Int.toNat_natCast] at z
    exact z
  have el : evE g (evCall g 0 99) l7_0 [some (.fz (.lst (ns.map .int))), some (.lst (is.map .int)), none] = some (.ok (.lst (List.replicate j (.bl true))) [some (.fz (.lst (ns.map .int))), some F, none]) := by
    rw [l7_0, lc_eq, hi]
    simp only [Ev.bnd, lookR, e, h4]
    rfl
  rw [call_eq (show g.fn 7 = some f7 from rfl) rfl (show 1 ≤ 3 by decide)]
  exact ⟨_, (congrArg finO ((evSs_nx (law_s1 e2)).trans (evSs_rt (law_s2 el)))).trans rfl⟩
theorem law_holds : PySem.Challenge.rw_lateplans_k00_errors.Holds := holds says
end K00
end
theorem PySem.Challenge.cw_lateplans_k00_errors_holds : PySem.Challenge.rw_lateplans_k00_errors.Holds := by
  exact K00.law_holds
